/-
  A text of mine, of several parts: SkVc, SkP, SkLaw, SkLaw2, SkLaw3, SkQ, SkR, SkLive, SkV, SkDef3, SoCfg, SoVc, SoP, SoT, SoV.
-/
import Derived.Test.YtfkfjbppncbkjaaSoa
import Derived.Test.YtfkfjbppncbkjaaSob
import Derived.RangeFuncBox
import Derived.RangeFuncLeaves
import Derived.Shelf.Abstract
import Derived.WalkKit
import Derived.OwnWalkIn
import Derived.TacticsInMore
import Derived.LoopNIn
import Derived.LoopIn
import Derived.Maps.AppendAt
import Derived.Shelf.RegionOpenV
set_option linter.all false
namespace Go.Proofs.Ytfkfjbppncbkjaa.Sk
open Go Go.Eng
set_option maxRecDepth 100000
theorem v65_eq : vcFn g65 300 Try.f65 (cTest isOpen) = ( ∀ (x : ((Int × (Int × Int × Int × Int × Int × Int × Int × Int × Unit) × Int × Unit) × Int × Int × Int × Bool × Unit) × Unit), Wr True → (Decidable.decide (x.fst.snd.snd.snd.fst = (0 : Int)), ()) = (isOpen x.fst, ())) := by kernel_rfl
theorem v66_eq : vcFn g66 300 Try.f66 (cTest isTwice) = ( ∀ (x : ((Int × (Int × Int × Int × Int × Int × Int × Int × Int × Unit) × Int × Unit) × Int × Int × Int × Bool × Unit) × Unit), Wr True → (Decidable.decide (x.fst.snd.snd.snd.fst > (1 : Int)), ()) = (isTwice x.fst, ())) := by kernel_rfl
theorem v60_eq : vcFn g60 300 Try.f60 (cClip sockT) = ( ∀ (x : List ((Int × (Int × Int × Int × Int × Int × Int × Int × Int × Unit) × Int × Unit) × Int × Int × Int × Bool × Unit) × Unit), Wr True → Wr ((0 : Int) ≤ (0 : Int)) ∧ Wr ((0 : Int) ≤ (↑(List.length x.fst) : Int)) ∧ Wr
  ((↑(List.length x.fst) : Int) ≤ (↑(List.length x.fst) : Int)) ∧ Wr ((↑(List.length x.fst) : Int) = (↑(List.length x.fst) : Int)) ∧ (List.drop (Int.toNat (0 : Int)) (List.take (Int.toNat (↑(List.length x.fst) : Int))
  x.fst), ()) = x) := by kernel_rfl
theorem v61_eq : vcFn g61 300 Try.f61 (cClip markT) = ( ∀ (x : List (Bool × Int × Int × Unit) × Unit), Wr True → Wr ((0 : Int) ≤ (0 : Int)) ∧ Wr ((0 : Int) ≤ (↑(List.length x.fst) : Int)) ∧ Wr ((↑(List.length x.fst) : Int) ≤ (↑(List.length x.fst) : Int)) ∧ Wr ((↑(List.length
  x.fst) : Int) = (↑(List.length x.fst) : Int)) ∧ (List.drop (Int.toNat (0 : Int)) (List.take (Int.toNat (↑(List.length x.fst) : Int)) x.fst), ()) = x) := by kernel_rfl
theorem v63_eq : vcFn g63 300 Try.f63 (cClone 83 64 sockT) = ( ∀ (x : List ((Int × (Int × Int × Int × Int × Int × Int × Int × Int × Unit) × Int × Unit) × Int × Int × Int × Bool × Unit) × Unit), Wr (Decidable.decide (List.length x.fst * (64 : Nat) ≤ (140737488355328 : Nat)) =
  Bool.true) → ∀ (b : Bool), Wr (b = Bool.true → x.fst = nilL ((Int × (Int × Int × Int × Int × Int × Int × Int × Int × Unit) × Int × Unit) × Int × Int × Int × Bool × Unit)) → bcase b (x.fst = nilL ((Int × (Int × Int × Int
  × Int × Int × Int × Int × Int × Unit) × Int × Unit) × Int × Int × Int × Bool × Unit)) (Wr ((List.length (nilL ((Int × (Int × Int × Int × Int × Int × Int × Int × Int × Unit) × Int × Unit) × Int × Int × Int × Bool ×
  Unit)) + List.length x.fst) * (64 : Nat) ≤ (140737488355328 : Nat)) ∧ nilL ((Int × (Int × Int × Int × Int × Int × Int × Int × Int × Unit) × Int × Unit) × Int × Int × Int × Bool × Unit) ++ x.fst = x.fst)) := by kernel_rfl
theorem v31_eq : vcFn g31 300 Try.f31 cCheck = ( ∀ (x : List ((Int × (Int × Int × Int × Int × Int × Int × Int × Int × Unit) × Int × Unit) × Int × Int × Int × Bool × Unit) × List (Bool × Int × Int × Unit) × Unit), Wr (okL x.fst x.snd.fst = Bool.true) → Wr ((0 : Int) ≤
  (↑(List.length x.fst) : Int)) ∧ Wr ((↑(List.length x.fst) : Int) ≤ (↑(List.length x.fst) : Int)) ∧ Wr ((↑(8 : Nat) : Int) * (↑(List.length x.fst) : Int) ≤ (281474976710656 : Int)) ∧ Wr ((↑(List.length x.fst) : Int) ≤
  (9223372036854775807 : Int)) ∧ ((Wr (CkInv x.fst x.snd.fst (CkS.mk (0 : Int) (0 : Int) (0 : Int) (List.replicate (Int.toNat (↑(List.length x.fst) : Int)) (0 : Int)))) ∧ Wr ((0 : Int) = (0 : Int)) ∧ Wr ((0 : Int) = (0 :
  Int)) ∧ Wr (Bool.false = Bool.false) ∧ Wr ((0 : Int) = (0 : Int)) ∧ Wr (x.fst = x.fst) ∧ Wr (x.snd.fst = x.snd.fst) ∧ Wr (x.snd.fst = x.snd.fst) ∧ Wr ((↑(List.length x.snd.fst) : Int) = (↑(List.length x.snd.fst) : Int))
  ∧ Wr (List.replicate (Int.toNat (↑(List.length x.fst) : Int)) (0 : Int) = List.replicate (Int.toNat (↑(List.length x.fst) : Int)) (0 : Int))) ∧ ∀ (x_1 : CkS), Wr (CkInv x.fst x.snd.fst x_1) → bcase (Decidable.decide
  (x_1.i < (↑(List.length x.snd.fst) : Int))) (Wr ((0 : Int) ≤ x_1.i) ∧ Wr (x_1.i < (↑(List.length x.snd.fst) : Int)) ∧ Wr (Bool.true = Bool.true) ∧ bcase (Decidable.decide (x_1.i > (0 : Int)) && Decidable.decide
  ((List.getD x.snd.fst (Int.toNat x_1.i) (Ty.zero markT)).snd.snd.fst < x_1.last)) (Wr (CkEnd x.fst x.snd.fst (Bool.true, x_1.many, x_1.cnt)) ∧ Wr (Bool.true = Bool.true) ∧ Wr (x_1.many = x_1.many) ∧ Wr (x.fst = x.fst) ∧
  Wr (x.snd.fst = x.snd.fst) ∧ Wr (x_1.cnt = x_1.cnt)) (bcase (List.getD x.snd.fst (Int.toNat x_1.i) (Ty.zero markT)).fst (bcase (!(Decidable.decide ((List.getD x.snd.fst (Int.toNat x_1.i) (Ty.zero markT)).snd.fst < (0 :
  Int)) || Decidable.decide ((List.getD x.snd.fst (Int.toNat x_1.i) (Ty.zero markT)).snd.fst ≥ x_1.many))) (Wr ((0 : Int) ≤ (List.getD x.snd.fst (Int.toNat x_1.i) (Ty.zero markT)).snd.fst) ∧ Wr ((List.getD x.snd.fst
  (Int.toNat x_1.i) (Ty.zero markT)).snd.fst < (↑(List.length x_1.cnt) : Int)) ∧ Wr ((0 : Int) ≤ (List.getD x.snd.fst (Int.toNat x_1.i) (Ty.zero markT)).snd.fst) ∧ Wr ((List.getD x.snd.fst (Int.toNat x_1.i) (Ty.zero
  markT)).snd.fst < (↑(List.length x_1.cnt) : Int)) ∧ bcase (Decidable.decide ((List.getD x.snd.fst (Int.toNat x_1.i) (Ty.zero markT)).snd.fst < (0 : Int)) || Decidable.decide ((List.getD x.snd.fst (Int.toNat x_1.i)
  (Ty.zero markT)).snd.fst ≥ x_1.many)) (Wr (CkEnd x.fst x.snd.fst (Decidable.decide ((List.getD x.snd.fst (Int.toNat x_1.i) (Ty.zero markT)).snd.fst < (0 : Int)) || Decidable.decide ((List.getD x.snd.fst (Int.toNat
  x_1.i) (Ty.zero markT)).snd.fst ≥ x_1.many), x_1.many, List.set x_1.cnt (Int.toNat (List.getD x.snd.fst (Int.toNat x_1.i) (Ty.zero markT)).snd.fst) (IntKind.wrap IntKind.i64 (List.getD x_1.cnt (Int.toNat (List.getD
  x.snd.fst (Int.toNat x_1.i) (Ty.zero markT)).snd.fst) (0 : Int) + (1 : Int))))) ∧ Wr ((Decidable.decide ((List.getD x.snd.fst (Int.toNat x_1.i) (Ty.zero markT)).snd.fst < (0 : Int)) || Decidable.decide ((List.getD
  x.snd.fst (Int.toNat x_1.i) (Ty.zero markT)).snd.fst ≥ x_1.many)) = (Decidable.decide ((List.getD x.snd.fst (Int.toNat x_1.i) (Ty.zero markT)).snd.fst < (0 : Int)) || Decidable.decide ((List.getD x.snd.fst (Int.toNat
  x_1.i) (Ty.zero markT)).snd.fst ≥ x_1.many))) ∧ Wr (x_1.many = x_1.many) ∧ Wr (x.fst = x.fst) ∧ Wr (x.snd.fst = x.snd.fst) ∧ Wr (List.set x_1.cnt (Int.toNat (List.getD x.snd.fst (Int.toNat x_1.i) (Ty.zero
  markT)).snd.fst) (IntKind.wrap IntKind.i64 (List.getD x_1.cnt (Int.toNat (List.getD x.snd.fst (Int.toNat x_1.i) (Ty.zero markT)).snd.fst) (0 : Int) + (1 : Int))) = List.set x_1.cnt (Int.toNat (List.getD x.snd.fst
  (Int.toNat x_1.i) (Ty.zero markT)).snd.fst) (IntKind.wrap IntKind.i64 (List.getD x_1.cnt (Int.toNat (List.getD x.snd.fst (Int.toNat x_1.i) (Ty.zero markT)).snd.fst) (0 : Int) + (1 : Int))))) (Wr (CkInv x.fst x.snd.fst
  (CkS.mk (IntKind.wrap IntKind.i64 (x_1.i + (1 : Int))) x_1.many (List.getD x.snd.fst (Int.toNat x_1.i) (Ty.zero markT)).snd.snd.fst (List.set x_1.cnt (Int.toNat (List.getD x.snd.fst (Int.toNat x_1.i) (Ty.zero
  markT)).snd.fst) (IntKind.wrap IntKind.i64 (List.getD x_1.cnt (Int.toNat (List.getD x.snd.fst (Int.toNat x_1.i) (Ty.zero markT)).snd.fst) (0 : Int) + (1 : Int)))))) ∧ Wr (List.length x.snd.fst - Int.toNat (IntKind.wrap
  IntKind.i64 (x_1.i + (1 : Int))) < List.length x.snd.fst - Int.toNat x_1.i) ∧ Wr (x_1.many = x_1.many) ∧ Wr ((List.getD x.snd.fst (Int.toNat x_1.i) (Ty.zero markT)).snd.snd.fst = (List.getD x.snd.fst (Int.toNat x_1.i)
  (Ty.zero markT)).snd.snd.fst) ∧ Wr ((Decidable.decide ((List.getD x.snd.fst (Int.toNat x_1.i) (Ty.zero markT)).snd.fst < (0 : Int)) || Decidable.decide ((List.getD x.snd.fst (Int.toNat x_1.i) (Ty.zero markT)).snd.fst ≥
  x_1.many)) = Bool.false) ∧ Wr (IntKind.wrap IntKind.i64 (x_1.i + (1 : Int)) = IntKind.wrap IntKind.i64 (x_1.i + (1 : Int))) ∧ Wr (x.fst = x.fst) ∧ Wr (x.snd.fst = x.snd.fst) ∧ Wr (x.snd.fst = x.snd.fst) ∧ Wr
  ((↑(List.length x.snd.fst) : Int) = (↑(List.length x.snd.fst) : Int)) ∧ Wr (List.set x_1.cnt (Int.toNat (List.getD x.snd.fst (Int.toNat x_1.i) (Ty.zero markT)).snd.fst) (IntKind.wrap IntKind.i64 (List.getD x_1.cnt
  (Int.toNat (List.getD x.snd.fst (Int.toNat x_1.i) (Ty.zero markT)).snd.fst) (0 : Int) + (1 : Int))) = List.set x_1.cnt (Int.toNat (List.getD x.snd.fst (Int.toNat x_1.i) (Ty.zero markT)).snd.fst) (IntKind.wrap
  IntKind.i64 (List.getD x_1.cnt (Int.toNat (List.getD x.snd.fst (Int.toNat x_1.i) (Ty.zero markT)).snd.fst) (0 : Int) + (1 : Int)))))) (bcase (Decidable.decide ((List.getD x.snd.fst (Int.toNat x_1.i) (Ty.zero
  markT)).snd.fst < (0 : Int)) || Decidable.decide ((List.getD x.snd.fst (Int.toNat x_1.i) (Ty.zero markT)).snd.fst ≥ x_1.many)) (Wr (CkEnd x.fst x.snd.fst (Decidable.decide ((List.getD x.snd.fst (Int.toNat x_1.i)
  (Ty.zero markT)).snd.fst < (0 : Int)) || Decidable.decide ((List.getD x.snd.fst (Int.toNat x_1.i) (Ty.zero markT)).snd.fst ≥ x_1.many), x_1.many, x_1.cnt)) ∧ Wr ((Decidable.decide ((List.getD x.snd.fst (Int.toNat x_1.i)
  (Ty.zero markT)).snd.fst < (0 : Int)) || Decidable.decide ((List.getD x.snd.fst (Int.toNat x_1.i) (Ty.zero markT)).snd.fst ≥ x_1.many)) = (Decidable.decide ((List.getD x.snd.fst (Int.toNat x_1.i) (Ty.zero
  markT)).snd.fst < (0 : Int)) || Decidable.decide ((List.getD x.snd.fst (Int.toNat x_1.i) (Ty.zero markT)).snd.fst ≥ x_1.many))) ∧ Wr (x_1.many = x_1.many) ∧ Wr (x.fst = x.fst) ∧ Wr (x.snd.fst = x.snd.fst) ∧ Wr (x_1.cnt
  = x_1.cnt)) (Wr (CkInv x.fst x.snd.fst (CkS.mk (IntKind.wrap IntKind.i64 (x_1.i + (1 : Int))) x_1.many (List.getD x.snd.fst (Int.toNat x_1.i) (Ty.zero markT)).snd.snd.fst x_1.cnt)) ∧ Wr (List.length x.snd.fst -
  Int.toNat (IntKind.wrap IntKind.i64 (x_1.i + (1 : Int))) < List.length x.snd.fst - Int.toNat x_1.i) ∧ Wr (x_1.many = x_1.many) ∧ Wr ((List.getD x.snd.fst (Int.toNat x_1.i) (Ty.zero markT)).snd.snd.fst = (List.getD
  x.snd.fst (Int.toNat x_1.i) (Ty.zero markT)).snd.snd.fst) ∧ Wr ((Decidable.decide ((List.getD x.snd.fst (Int.toNat x_1.i) (Ty.zero markT)).snd.fst < (0 : Int)) || Decidable.decide ((List.getD x.snd.fst (Int.toNat x_1.i)
  (Ty.zero markT)).snd.fst ≥ x_1.many)) = Bool.false) ∧ Wr (IntKind.wrap IntKind.i64 (x_1.i + (1 : Int)) = IntKind.wrap IntKind.i64 (x_1.i + (1 : Int))) ∧ Wr (x.fst = x.fst) ∧ Wr (x.snd.fst = x.snd.fst) ∧ Wr (x.snd.fst =
  x.snd.fst) ∧ Wr ((↑(List.length x.snd.fst) : Int) = (↑(List.length x.snd.fst) : Int)) ∧ Wr (x_1.cnt = x_1.cnt)))) (Wr ((!(!Decidable.decide ((List.getD x.snd.fst (Int.toNat x_1.i) (Ty.zero markT)).snd.fst = x_1.many) ||
  Decidable.decide (x_1.many ≥ (↑(List.length x.fst) : Int)))) = Bool.true → (0 : Int) ≤ x_1.many) ∧ Wr ((!(!Decidable.decide ((List.getD x.snd.fst (Int.toNat x_1.i) (Ty.zero markT)).snd.fst = x_1.many) ||
  Decidable.decide (x_1.many ≥ (↑(List.length x.fst) : Int)))) = Bool.true → x_1.many < (↑(List.length x.fst) : Int)) ∧ Wr ((!(!Decidable.decide ((List.getD x.snd.fst (Int.toNat x_1.i) (Ty.zero markT)).snd.fst = x_1.many)
  || Decidable.decide (x_1.many ≥ (↑(List.length x.fst) : Int)))) = Bool.true → Bool.true = Bool.true) ∧ Wr ((!(!Decidable.decide ((List.getD x.snd.fst (Int.toNat x_1.i) (Ty.zero markT)).snd.fst = x_1.many) ||
  Decidable.decide (x_1.many ≥ (↑(List.length x.fst) : Int)))) = Bool.true → Bool.true = Bool.true) ∧ bcase (!Decidable.decide ((List.getD x.snd.fst (Int.toNat x_1.i) (Ty.zero markT)).snd.fst = x_1.many) ||
  Decidable.decide (x_1.many ≥ (↑(List.length x.fst) : Int)) || !Decidable.decide ((List.getD x.fst (Int.toNat x_1.many) (Ty.zero sockT)).snd.snd.fst = (List.getD x.snd.fst (Int.toNat x_1.i) (Ty.zero markT)).snd.snd.fst))
  (Wr (CkEnd x.fst x.snd.fst (!Decidable.decide ((List.getD x.snd.fst (Int.toNat x_1.i) (Ty.zero markT)).snd.fst = x_1.many) || Decidable.decide (x_1.many ≥ (↑(List.length x.fst) : Int)) || !Decidable.decide ((List.getD
  x.fst (Int.toNat x_1.many) (Ty.zero sockT)).snd.snd.fst = (List.getD x.snd.fst (Int.toNat x_1.i) (Ty.zero markT)).snd.snd.fst), IntKind.wrap IntKind.i64 (x_1.many + (1 : Int)), x_1.cnt)) ∧ Wr ((!Decidable.decide
  ((List.getD x.snd.fst (Int.toNat x_1.i) (Ty.zero markT)).snd.fst = x_1.many) || Decidable.decide (x_1.many ≥ (↑(List.length x.fst) : Int)) || !Decidable.decide ((List.getD x.fst (Int.toNat x_1.many) (Ty.zero
  sockT)).snd.snd.fst = (List.getD x.snd.fst (Int.toNat x_1.i) (Ty.zero markT)).snd.snd.fst)) = (!Decidable.decide ((List.getD x.snd.fst (Int.toNat x_1.i) (Ty.zero markT)).snd.fst = x_1.many) || Decidable.decide (x_1.many
  ≥ (↑(List.length x.fst) : Int)) || !Decidable.decide ((List.getD x.fst (Int.toNat x_1.many) (Ty.zero sockT)).snd.snd.fst = (List.getD x.snd.fst (Int.toNat x_1.i) (Ty.zero markT)).snd.snd.fst))) ∧ Wr (IntKind.wrap
  IntKind.i64 (x_1.many + (1 : Int)) = IntKind.wrap IntKind.i64 (x_1.many + (1 : Int))) ∧ Wr (x.fst = x.fst) ∧ Wr (x.snd.fst = x.snd.fst) ∧ Wr (x_1.cnt = x_1.cnt)) (Wr (CkInv x.fst x.snd.fst (CkS.mk (IntKind.wrap
  IntKind.i64 (x_1.i + (1 : Int))) (IntKind.wrap IntKind.i64 (x_1.many + (1 : Int))) (List.getD x.snd.fst (Int.toNat x_1.i) (Ty.zero markT)).snd.snd.fst x_1.cnt)) ∧ Wr (List.length x.snd.fst - Int.toNat (IntKind.wrap
  IntKind.i64 (x_1.i + (1 : Int))) < List.length x.snd.fst - Int.toNat x_1.i) ∧ Wr (IntKind.wrap IntKind.i64 (x_1.many + (1 : Int)) = IntKind.wrap IntKind.i64 (x_1.many + (1 : Int))) ∧ Wr ((List.getD x.snd.fst (Int.toNat
  x_1.i) (Ty.zero markT)).snd.snd.fst = (List.getD x.snd.fst (Int.toNat x_1.i) (Ty.zero markT)).snd.snd.fst) ∧ Wr ((!Decidable.decide ((List.getD x.snd.fst (Int.toNat x_1.i) (Ty.zero markT)).snd.fst = x_1.many) ||
  Decidable.decide (x_1.many ≥ (↑(List.length x.fst) : Int)) || !Decidable.decide ((List.getD x.fst (Int.toNat x_1.many) (Ty.zero sockT)).snd.snd.fst = (List.getD x.snd.fst (Int.toNat x_1.i) (Ty.zero markT)).snd.snd.fst))
  = Bool.false) ∧ Wr (IntKind.wrap IntKind.i64 (x_1.i + (1 : Int)) = IntKind.wrap IntKind.i64 (x_1.i + (1 : Int))) ∧ Wr (x.fst = x.fst) ∧ Wr (x.snd.fst = x.snd.fst) ∧ Wr (x.snd.fst = x.snd.fst) ∧ Wr ((↑(List.length
  x.snd.fst) : Int) = (↑(List.length x.snd.fst) : Int)) ∧ Wr (x_1.cnt = x_1.cnt))))) (Wr (CkEnd x.fst x.snd.fst (Bool.false, x_1.many, x_1.cnt)) ∧ Wr (Bool.false = Bool.false) ∧ Wr (x_1.many = x_1.many) ∧ Wr (x.fst =
  x.fst) ∧ Wr (x.snd.fst = x.snd.fst) ∧ Wr (x_1.cnt = x_1.cnt))) ∧ ∀ (x_1 : Bool × Int × List Int), Wr (CkEnd x.fst x.snd.fst x_1) → (Wr (Ck2 x.fst x_1.fst x_1.snd.snd ((0 : Int), x_1.fst)) ∧ Wr (x_1.fst = x_1.fst) ∧ Wr
  ((0 : Int) = (0 : Int)) ∧ Wr (x.fst = x.fst) ∧ Wr (x_1.snd.fst = x_1.snd.fst) ∧ Wr (x.fst = x.fst) ∧ Wr ((↑(List.length x.fst) : Int) = (↑(List.length x.fst) : Int)) ∧ Wr (x_1.snd.snd = x_1.snd.snd)) ∧ ∀ (x_2 : Int ×
  Bool), Wr (Ck2 x.fst x_1.fst x_1.snd.snd x_2) → bcase (Decidable.decide (x_2.fst < (↑(List.length x.fst) : Int))) (Wr ((0 : Int) ≤ x_2.fst) ∧ Wr (x_2.fst < (↑(List.length x.fst) : Int)) ∧ Wr (Bool.true = Bool.true) ∧ Wr
  ((!x_2.snd) = Bool.true → (0 : Int) ≤ x_2.fst) ∧ Wr ((!x_2.snd) = Bool.true → x_2.fst < (↑(List.length x_1.snd.snd) : Int)) ∧ Wr (Ck2 x.fst x_1.fst x_1.snd.snd (IntKind.wrap IntKind.i64 (x_2.fst + (1 : Int)), x_2.snd ||
  !Decidable.decide ((List.getD x.fst (Int.toNat x_2.fst) (Ty.zero sockT)).snd.snd.snd.fst = List.getD x_1.snd.snd (Int.toNat x_2.fst) (0 : Int)))) ∧ Wr (List.length x.fst - Int.toNat (IntKind.wrap IntKind.i64 (x_2.fst +
  (1 : Int))) < List.length x.fst - Int.toNat x_2.fst) ∧ Wr ((x_2.snd || !Decidable.decide ((List.getD x.fst (Int.toNat x_2.fst) (Ty.zero sockT)).snd.snd.snd.fst = List.getD x_1.snd.snd (Int.toNat x_2.fst) (0 : Int))) =
  (x_2.snd || !Decidable.decide ((List.getD x.fst (Int.toNat x_2.fst) (Ty.zero sockT)).snd.snd.snd.fst = List.getD x_1.snd.snd (Int.toNat x_2.fst) (0 : Int)))) ∧ Wr (IntKind.wrap IntKind.i64 (x_2.fst + (1 : Int)) =
  IntKind.wrap IntKind.i64 (x_2.fst + (1 : Int))) ∧ Wr (x.fst = x.fst) ∧ Wr (x_1.snd.fst = x_1.snd.fst) ∧ Wr (x.fst = x.fst) ∧ Wr ((↑(List.length x.fst) : Int) = (↑(List.length x.fst) : Int)) ∧ Wr (x_1.snd.snd =
  x_1.snd.snd)) (bcase (x_2.snd || !Decidable.decide (x_1.snd.fst = (↑(List.length x.fst) : Int))) (((80 : Int), ()) = (check x.fst x.snd.fst, ())) (((0 : Int), ()) = (check x.fst x.snd.fst, ())))) := by kernel_rfl
theorem v43_eq : vcFn g43 300 Try.f43 cOpen = ( ∀ (x : List ((Int × (Int × Int × Int × Int × Int × Int × Int × Int × Unit) × Int × Unit) × Int × Int × Int × Bool × Unit) × List (Bool × Int × Int × Unit) × (Int × (Int × Int × Int × Int × Int × Int × Int × Int × Unit) ×
  Int × Unit) × Int × Int × Unit), Wr (okL x.fst x.snd.fst = Bool.true) → Wr True ∧ Wr ((List.length x.fst + List.length ((x.snd.snd.fst, x.snd.snd.snd.fst, x.snd.snd.snd.snd.fst, (0 : Int), Bool.false, ()) :: nilL ((Int
  × (Int × Int × Int × Int × Int × Int × Int × Int × Unit) × Int × Unit) × Int × Int × Int × Bool × Unit))) * (64 : Nat) ≤ (140737488355328 : Nat)) ∧ Wr ((0 : Nat) < List.length ((x.snd.snd.fst, x.snd.snd.snd.fst,
  x.snd.snd.snd.snd.fst, (0 : Int), Bool.false, ()) :: nilL ((Int × (Int × Int × Int × Int × Int × Int × Int × Int × Unit) × Int × Unit) × Int × Int × Int × Bool × Unit))) ∧ Wr True ∧ Wr ((List.length x.snd.fst +
  List.length ((Bool.false, (↑(List.length x.fst) : Int), x.snd.snd.snd.snd) :: nilL (Bool × Int × Int × Unit))) * (24 : Nat) ≤ (140737488355328 : Nat)) ∧ Wr ((0 : Nat) < List.length ((Bool.false, (↑(List.length x.fst) :
  Int), x.snd.snd.snd.snd) :: nilL (Bool × Int × Int × Unit))) ∧ (x.fst ++ (x.snd.snd.fst, x.snd.snd.snd.fst, x.snd.snd.snd.snd.fst, (0 : Int), Bool.false, ()) :: nilL ((Int × (Int × Int × Int × Int × Int × Int × Int ×
  Int × Unit) × Int × Unit) × Int × Int × Int × Bool × Unit), x.snd.fst ++ (Bool.false, (↑(List.length x.fst) : Int), x.snd.snd.snd.snd) :: nilL (Bool × Int × Int × Unit), (↑(List.length x.fst) : Int), ()) = (addS x.fst
  x.snd.snd.fst x.snd.snd.snd.fst x.snd.snd.snd.snd.fst, addM x.snd.fst Bool.false (lenS x.fst) x.snd.snd.snd.snd.fst, lenS x.fst, ())) := by kernel_rfl
theorem v45_eq : vcFn g45 300 Try.f45 cShut = ( ∀ (x : List ((Int × (Int × Int × Int × Int × Int × Int × Int × Int × Unit) × Int × Unit) × Int × Int × Int × Bool × Unit) × List (Bool × Int × Int × Unit) × Int × Int × Unit), Wr (okL x.fst x.snd.fst = Bool.true) → bcase
  (Decidable.decide (x.snd.snd.fst < (0 : Int)) || Decidable.decide (x.snd.snd.fst ≥ (↑(List.length x.fst) : Int))) ((nilL ((Int × (Int × Int × Int × Int × Int × Int × Int × Int × Unit) × Int × Unit) × Int × Int × Int ×
  Bool × Unit), nilL (Bool × Int × Int × Unit), (80 : Int), ()) = (shA x.fst x.snd.snd.fst, shB x.fst x.snd.fst x.snd.snd.fst x.snd.snd.snd.fst, shE x.fst x.snd.snd.fst, ())) (Wr (Decidable.decide (List.length x.fst * (64
  : Nat) ≤ (140737488355328 : Nat)) = Bool.true) ∧ Wr ((0 : Int) ≤ x.snd.snd.fst) ∧ Wr (x.snd.snd.fst < (↑(List.length x.fst) : Int)) ∧ Wr ((0 : Int) ≤ x.snd.snd.fst) ∧ Wr (x.snd.snd.fst < (↑(List.length x.fst) : Int)) ∧
  Wr True ∧ Wr ((List.length x.snd.fst + List.length ((Bool.true, x.snd.snd) :: nilL (Bool × Int × Int × Unit))) * (24 : Nat) ≤ (140737488355328 : Nat)) ∧ Wr ((0 : Nat) < List.length ((Bool.true, x.snd.snd) :: nilL (Bool
  × Int × Int × Unit))) ∧ (List.set x.fst (Int.toNat x.snd.snd.fst) ((List.getD x.fst (Int.toNat x.snd.snd.fst) (Ty.zero sockT)).fst, (List.getD x.fst (Int.toNat x.snd.snd.fst) (Ty.zero sockT)).snd.fst, (List.getD x.fst
  (Int.toNat x.snd.snd.fst) (Ty.zero sockT)).snd.snd.fst, IntKind.wrap IntKind.i64 ((List.getD x.fst (Int.toNat x.snd.snd.fst) (Ty.zero sockT)).snd.snd.snd.fst + (1 : Int)), (List.getD x.fst (Int.toNat x.snd.snd.fst)
  (Ty.zero sockT)).snd.snd.snd.snd), x.snd.fst ++ (Bool.true, x.snd.snd) :: nilL (Bool × Int × Int × Unit), (0 : Int), ()) = (shA x.fst x.snd.snd.fst, shB x.fst x.snd.fst x.snd.snd.fst x.snd.snd.snd.fst, shE x.fst
  x.snd.snd.fst, ()))) := by kernel_rfl
theorem v62_eq : vcFn g62 300 Try.f62 cIsOpen = ( ∀ (x : List ((Int × (Int × Int × Int × Int × Int × Int × Int × Int × Unit) × Int × Unit) × Int × Int × Int × Bool × Unit) × List Int × Unit), Wr (Decidable.decide (List.length x.snd.fst ≤ (1000000 : Nat)) = Bool.true) →
  (Wr ((0 : Int) ≤ (0 : Int) ∧ (0 : Int) ≤ (↑(List.length x.snd.fst) : Int) ∧ List.all (List.take (Int.toNat (0 : Int)) x.snd.fst) (opens x.fst) = Bool.true) ∧ Wr ((0 : Int) = (0 : Int)) ∧ Wr (x.fst = x.fst) ∧ Wr
  (x.snd.fst = x.snd.fst) ∧ Wr (x.snd.fst = x.snd.fst) ∧ Wr ((↑(List.length x.snd.fst) : Int) = (↑(List.length x.snd.fst) : Int))) ∧ ∀ (x_1 : Int), Wr ((0 : Int) ≤ x_1 ∧ x_1 ≤ (↑(List.length x.snd.fst) : Int) ∧ List.all
  (List.take (Int.toNat x_1) x.snd.fst) (opens x.fst) = Bool.true) → bcase (Decidable.decide (x_1 < (↑(List.length x.snd.fst) : Int))) (Wr ((0 : Int) ≤ x_1) ∧ Wr (x_1 < (↑(List.length x.snd.fst) : Int)) ∧ Wr (Bool.true =
  Bool.true) ∧ Wr ((!(Decidable.decide (List.getD x.snd.fst (Int.toNat x_1) (0 : Int) < (0 : Int)) || Decidable.decide (List.getD x.snd.fst (Int.toNat x_1) (0 : Int) ≥ (↑(List.length x.fst) : Int)))) = Bool.true → (0 :
  Int) ≤ List.getD x.snd.fst (Int.toNat x_1) (0 : Int)) ∧ Wr ((!(Decidable.decide (List.getD x.snd.fst (Int.toNat x_1) (0 : Int) < (0 : Int)) || Decidable.decide (List.getD x.snd.fst (Int.toNat x_1) (0 : Int) ≥
  (↑(List.length x.fst) : Int)))) = Bool.true → List.getD x.snd.fst (Int.toNat x_1) (0 : Int) < (↑(List.length x.fst) : Int)) ∧ Wr ((!(Decidable.decide (List.getD x.snd.fst (Int.toNat x_1) (0 : Int) < (0 : Int)) ||
  Decidable.decide (List.getD x.snd.fst (Int.toNat x_1) (0 : Int) ≥ (↑(List.length x.fst) : Int)))) = Bool.true → Bool.true = Bool.true) ∧ Wr ((!(Decidable.decide (List.getD x.snd.fst (Int.toNat x_1) (0 : Int) < (0 :
  Int)) || Decidable.decide (List.getD x.snd.fst (Int.toNat x_1) (0 : Int) ≥ (↑(List.length x.fst) : Int)))) = Bool.true → True) ∧ bcase (Decidable.decide (List.getD x.snd.fst (Int.toNat x_1) (0 : Int) < (0 : Int)) ||
  Decidable.decide (List.getD x.snd.fst (Int.toNat x_1) (0 : Int) ≥ (↑(List.length x.fst) : Int)) || !isOpen (List.getD x.fst (Int.toNat (List.getD x.snd.fst (Int.toNat x_1) (0 : Int))) (Ty.zero sockT))) ((Bool.false, ())
  = (List.all x.snd.fst (opens x.fst), ())) (Wr ((0 : Int) ≤ IntKind.wrap IntKind.i64 (x_1 + (1 : Int)) ∧ IntKind.wrap IntKind.i64 (x_1 + (1 : Int)) ≤ (↑(List.length x.snd.fst) : Int) ∧ List.all (List.take (Int.toNat
  (IntKind.wrap IntKind.i64 (x_1 + (1 : Int)))) x.snd.fst) (opens x.fst) = Bool.true) ∧ Wr (List.length x.snd.fst - Int.toNat (IntKind.wrap IntKind.i64 (x_1 + (1 : Int))) < List.length x.snd.fst - Int.toNat x_1) ∧ Wr
  (IntKind.wrap IntKind.i64 (x_1 + (1 : Int)) = IntKind.wrap IntKind.i64 (x_1 + (1 : Int))) ∧ Wr (x.fst = x.fst) ∧ Wr (x.snd.fst = x.snd.fst) ∧ Wr (x.snd.fst = x.snd.fst) ∧ Wr ((↑(List.length x.snd.fst) : Int) =
  (↑(List.length x.snd.fst) : Int)))) ((Bool.true, ()) = (List.all x.snd.fst (opens x.fst), ()))) := by kernel_rfl
theorem v44_eq : vcFn g44 300 Try.f44 cDrop = ( ∀ (x : List ((Int × (Int × Int × Int × Int × Int × Int × Int × Int × Unit) × Int × Unit) × Int × Int × Int × Bool × Unit) × Int × Unit), Wr (okN x.fst = Bool.true) → Wr (Decidable.decide (List.length (x.snd.fst :: nilL
  Int) ≤ (1000000 : Nat)) = Bool.true) ∧ bcase (!List.all (x.snd.fst :: nilL Int) (opens x.fst)) ((nilL ((Int × (Int × Int × Int × Int × Int × Int × Int × Int × Unit) × Int × Unit) × Int × Int × Int × Bool × Unit), (80 :
  Int), ()) = (drA x.fst x.snd.fst, drE x.fst x.snd.fst, ())) (Wr (Decidable.decide (List.length x.fst * (64 : Nat) ≤ (140737488355328 : Nat)) = Bool.true) ∧ Wr ((0 : Int) ≤ x.snd.fst) ∧ Wr (x.snd.fst < (↑(List.length
  x.fst) : Int)) ∧ (List.set x.fst (Int.toNat x.snd.fst) ((List.getD x.fst (Int.toNat x.snd.fst) (Ty.zero sockT)).fst, (List.getD x.fst (Int.toNat x.snd.fst) (Ty.zero sockT)).snd.fst, (List.getD x.fst (Int.toNat
  x.snd.fst) (Ty.zero sockT)).snd.snd.fst, (List.getD x.fst (Int.toNat x.snd.fst) (Ty.zero sockT)).snd.snd.snd.fst, Bool.true, ()), (0 : Int), ()) = (drA x.fst x.snd.fst, drE x.fst x.snd.fst, ()))) := by kernel_rfl
theorem v8_eq : vcFn g8 300 Try.f8 cSockCheck = ( ∀ (x : List ((Int × (Int × Int × Int × Int × Int × Int × Int × Int × Unit) × Int × Unit) × Int × Int × Int × Bool × Unit) × List (Bool × Int × Int × Unit) × Int × Unit), Wr True → Wr ((!(Decidable.decide ((↑(List.length
  x.fst) : Int) > (300 : Int)) || Decidable.decide ((↑(List.length x.snd.fst) : Int) > (600 : Int)))) = Bool.true → okL x.fst x.snd.fst = Bool.true) ∧ bcase (Decidable.decide ((↑(List.length x.fst) : Int) > (300 : Int))
  || Decidable.decide ((↑(List.length x.snd.fst) : Int) > (600 : Int)) || !Decidable.decide (check x.fst x.snd.fst = (0 : Int)) || Decidable.decide ((↑(List.length x.snd.fst) : Int) = (0 : Int))) (Wr True ∧ (Bool.true,
  ()) = (Bool.true, ())) (Wr ((↑(List.length x.snd.fst) : Int) ≠ (0 : Int)) ∧ Wr ((↑(List.length x.snd.fst) : Int) ≠ (0 : Int)) ∧ Wr ((0 : Int) ≤ (0 : Int)) ∧ Wr ((0 : Int) ≤ Int.tmod (IntKind.wrap IntKind.i64 (Int.tmod
  x.snd.snd.fst (↑(List.length x.snd.fst) : Int) + (↑(List.length x.snd.fst) : Int))) (↑(List.length x.snd.fst) : Int)) ∧ Wr (Int.tmod (IntKind.wrap IntKind.i64 (Int.tmod x.snd.snd.fst (↑(List.length x.snd.fst) : Int) +
  (↑(List.length x.snd.fst) : Int))) (↑(List.length x.snd.fst) : Int) ≤ (↑(List.length x.snd.fst) : Int)) ∧ Wr ((List.length (nilL (Bool × Int × Int × Unit)) + List.length (List.drop (Int.toNat (0 : Int)) (List.take
  (Int.toNat (Int.tmod (IntKind.wrap IntKind.i64 (Int.tmod x.snd.snd.fst (↑(List.length x.snd.fst) : Int) + (↑(List.length x.snd.fst) : Int))) (↑(List.length x.snd.fst) : Int))) x.snd.fst))) * (24 : Nat) ≤
  (140737488355328 : Nat)) ∧ Wr ((0 : Int) ≤ IntKind.wrap IntKind.i64 (Int.tmod (IntKind.wrap IntKind.i64 (Int.tmod x.snd.snd.fst (↑(List.length x.snd.fst) : Int) + (↑(List.length x.snd.fst) : Int))) (↑(List.length
  x.snd.fst) : Int) + (1 : Int))) ∧ Wr (IntKind.wrap IntKind.i64 (Int.tmod (IntKind.wrap IntKind.i64 (Int.tmod x.snd.snd.fst (↑(List.length x.snd.fst) : Int) + (↑(List.length x.snd.fst) : Int))) (↑(List.length x.snd.fst)
  : Int) + (1 : Int)) ≤ (↑(List.length x.snd.fst) : Int)) ∧ Wr ((↑(List.length x.snd.fst) : Int) ≤ (↑(List.length x.snd.fst) : Int)) ∧ Wr ((List.length (nilL (Bool × Int × Int × Unit) ++ List.drop (Int.toNat (0 : Int))
  (List.take (Int.toNat (Int.tmod (IntKind.wrap IntKind.i64 (Int.tmod x.snd.snd.fst (↑(List.length x.snd.fst) : Int) + (↑(List.length x.snd.fst) : Int))) (↑(List.length x.snd.fst) : Int))) x.snd.fst)) + List.length
  (List.drop (Int.toNat (IntKind.wrap IntKind.i64 (Int.tmod (IntKind.wrap IntKind.i64 (Int.tmod x.snd.snd.fst (↑(List.length x.snd.fst) : Int) + (↑(List.length x.snd.fst) : Int))) (↑(List.length x.snd.fst) : Int) + (1 :
  Int)))) (List.take (Int.toNat (↑(List.length x.snd.fst) : Int)) x.snd.fst))) * (24 : Nat) ≤ (140737488355328 : Nat)) ∧ Wr ((0 : Int) ≤ (0 : Int)) ∧ Wr ((0 : Int) ≤ Int.tmod (IntKind.wrap IntKind.i64 (Int.tmod
  x.snd.snd.fst (↑(List.length x.snd.fst) : Int) + (↑(List.length x.snd.fst) : Int))) (↑(List.length x.snd.fst) : Int)) ∧ Wr (Int.tmod (IntKind.wrap IntKind.i64 (Int.tmod x.snd.snd.fst (↑(List.length x.snd.fst) : Int) +
  (↑(List.length x.snd.fst) : Int))) (↑(List.length x.snd.fst) : Int) ≤ (↑(List.length x.snd.fst) : Int)) ∧ Wr ((List.length (nilL (Bool × Int × Int × Unit)) + List.length (List.drop (Int.toNat (0 : Int)) (List.take
  (Int.toNat (Int.tmod (IntKind.wrap IntKind.i64 (Int.tmod x.snd.snd.fst (↑(List.length x.snd.fst) : Int) + (↑(List.length x.snd.fst) : Int))) (↑(List.length x.snd.fst) : Int))) x.snd.fst))) * (24 : Nat) ≤
  (140737488355328 : Nat)) ∧ Wr ((0 : Int) ≤ Int.tmod (IntKind.wrap IntKind.i64 (Int.tmod x.snd.snd.fst (↑(List.length x.snd.fst) : Int) + (↑(List.length x.snd.fst) : Int))) (↑(List.length x.snd.fst) : Int)) ∧ Wr
  (Int.tmod (IntKind.wrap IntKind.i64 (Int.tmod x.snd.snd.fst (↑(List.length x.snd.fst) : Int) + (↑(List.length x.snd.fst) : Int))) (↑(List.length x.snd.fst) : Int) < (↑(List.length x.snd.fst) : Int)) ∧ Wr (Bool.true =
  Bool.true) ∧ Wr ((List.length (nilL (Bool × Int × Int × Unit) ++ List.drop (Int.toNat (0 : Int)) (List.take (Int.toNat (Int.tmod (IntKind.wrap IntKind.i64 (Int.tmod x.snd.snd.fst (↑(List.length x.snd.fst) : Int) +
  (↑(List.length x.snd.fst) : Int))) (↑(List.length x.snd.fst) : Int))) x.snd.fst)) + List.length (List.getD x.snd.fst (Int.toNat (Int.tmod (IntKind.wrap IntKind.i64 (Int.tmod x.snd.snd.fst (↑(List.length x.snd.fst) :
  Int) + (↑(List.length x.snd.fst) : Int))) (↑(List.length x.snd.fst) : Int))) (Ty.zero markT) :: nilL (Bool × Int × Int × Unit))) * (24 : Nat) ≤ (140737488355328 : Nat)) ∧ Wr ((0 : Int) ≤ Int.tmod (IntKind.wrap
  IntKind.i64 (Int.tmod x.snd.snd.fst (↑(List.length x.snd.fst) : Int) + (↑(List.length x.snd.fst) : Int))) (↑(List.length x.snd.fst) : Int)) ∧ Wr (Int.tmod (IntKind.wrap IntKind.i64 (Int.tmod x.snd.snd.fst (↑(List.length
  x.snd.fst) : Int) + (↑(List.length x.snd.fst) : Int))) (↑(List.length x.snd.fst) : Int) ≤ (↑(List.length x.snd.fst) : Int)) ∧ Wr ((↑(List.length x.snd.fst) : Int) ≤ (↑(List.length x.snd.fst) : Int)) ∧ Wr ((List.length
  (nilL (Bool × Int × Int × Unit) ++ List.drop (Int.toNat (0 : Int)) (List.take (Int.toNat (Int.tmod (IntKind.wrap IntKind.i64 (Int.tmod x.snd.snd.fst (↑(List.length x.snd.fst) : Int) + (↑(List.length x.snd.fst) : Int)))
  (↑(List.length x.snd.fst) : Int))) x.snd.fst) ++ List.getD x.snd.fst (Int.toNat (Int.tmod (IntKind.wrap IntKind.i64 (Int.tmod x.snd.snd.fst (↑(List.length x.snd.fst) : Int) + (↑(List.length x.snd.fst) : Int)))
  (↑(List.length x.snd.fst) : Int))) (Ty.zero markT) :: nilL (Bool × Int × Int × Unit)) + List.length (List.drop (Int.toNat (Int.tmod (IntKind.wrap IntKind.i64 (Int.tmod x.snd.snd.fst (↑(List.length x.snd.fst) : Int) +
  (↑(List.length x.snd.fst) : Int))) (↑(List.length x.snd.fst) : Int))) (List.take (Int.toNat (↑(List.length x.snd.fst) : Int)) x.snd.fst))) * (24 : Nat) ≤ (140737488355328 : Nat)) ∧ Wr (okL x.fst (nilL (Bool × Int × Int
  × Unit) ++ List.drop (Int.toNat (0 : Int)) (List.take (Int.toNat (Int.tmod (IntKind.wrap IntKind.i64 (Int.tmod x.snd.snd.fst (↑(List.length x.snd.fst) : Int) + (↑(List.length x.snd.fst) : Int))) (↑(List.length
  x.snd.fst) : Int))) x.snd.fst) ++ List.drop (Int.toNat (IntKind.wrap IntKind.i64 (Int.tmod (IntKind.wrap IntKind.i64 (Int.tmod x.snd.snd.fst (↑(List.length x.snd.fst) : Int) + (↑(List.length x.snd.fst) : Int)))
  (↑(List.length x.snd.fst) : Int) + (1 : Int)))) (List.take (Int.toNat (↑(List.length x.snd.fst) : Int)) x.snd.fst)) = Bool.true) ∧ Wr (Decidable.decide (check x.fst (nilL (Bool × Int × Int × Unit) ++ List.drop
  (Int.toNat (0 : Int)) (List.take (Int.toNat (Int.tmod (IntKind.wrap IntKind.i64 (Int.tmod x.snd.snd.fst (↑(List.length x.snd.fst) : Int) + (↑(List.length x.snd.fst) : Int))) (↑(List.length x.snd.fst) : Int))) x.snd.fst)
  ++ List.drop (Int.toNat (IntKind.wrap IntKind.i64 (Int.tmod (IntKind.wrap IntKind.i64 (Int.tmod x.snd.snd.fst (↑(List.length x.snd.fst) : Int) + (↑(List.length x.snd.fst) : Int))) (↑(List.length x.snd.fst) : Int) + (1 :
  Int)))) (List.take (Int.toNat (↑(List.length x.snd.fst) : Int)) x.snd.fst)) = (80 : Int)) = Bool.true → okL x.fst (nilL (Bool × Int × Int × Unit) ++ List.drop (Int.toNat (0 : Int)) (List.take (Int.toNat (Int.tmod
  (IntKind.wrap IntKind.i64 (Int.tmod x.snd.snd.fst (↑(List.length x.snd.fst) : Int) + (↑(List.length x.snd.fst) : Int))) (↑(List.length x.snd.fst) : Int))) x.snd.fst) ++ List.getD x.snd.fst (Int.toNat (Int.tmod
  (IntKind.wrap IntKind.i64 (Int.tmod x.snd.snd.fst (↑(List.length x.snd.fst) : Int) + (↑(List.length x.snd.fst) : Int))) (↑(List.length x.snd.fst) : Int))) (Ty.zero markT) :: nilL (Bool × Int × Int × Unit) ++ List.drop
  (Int.toNat (Int.tmod (IntKind.wrap IntKind.i64 (Int.tmod x.snd.snd.fst (↑(List.length x.snd.fst) : Int) + (↑(List.length x.snd.fst) : Int))) (↑(List.length x.snd.fst) : Int))) (List.take (Int.toNat (↑(List.length
  x.snd.fst) : Int)) x.snd.fst)) = Bool.true) ∧ Wr ((Decidable.decide (check x.fst (nilL (Bool × Int × Int × Unit) ++ List.drop (Int.toNat (0 : Int)) (List.take (Int.toNat (Int.tmod (IntKind.wrap IntKind.i64 (Int.tmod
  x.snd.snd.fst (↑(List.length x.snd.fst) : Int) + (↑(List.length x.snd.fst) : Int))) (↑(List.length x.snd.fst) : Int))) x.snd.fst) ++ List.drop (Int.toNat (IntKind.wrap IntKind.i64 (Int.tmod (IntKind.wrap IntKind.i64
  (Int.tmod x.snd.snd.fst (↑(List.length x.snd.fst) : Int) + (↑(List.length x.snd.fst) : Int))) (↑(List.length x.snd.fst) : Int) + (1 : Int)))) (List.take (Int.toNat (↑(List.length x.snd.fst) : Int)) x.snd.fst)) = (80 :
  Int)) && Decidable.decide (check x.fst (nilL (Bool × Int × Int × Unit) ++ List.drop (Int.toNat (0 : Int)) (List.take (Int.toNat (Int.tmod (IntKind.wrap IntKind.i64 (Int.tmod x.snd.snd.fst (↑(List.length x.snd.fst) :
  Int) + (↑(List.length x.snd.fst) : Int))) (↑(List.length x.snd.fst) : Int))) x.snd.fst) ++ List.getD x.snd.fst (Int.toNat (Int.tmod (IntKind.wrap IntKind.i64 (Int.tmod x.snd.snd.fst (↑(List.length x.snd.fst) : Int) +
  (↑(List.length x.snd.fst) : Int))) (↑(List.length x.snd.fst) : Int))) (Ty.zero markT) :: nilL (Bool × Int × Int × Unit) ++ List.drop (Int.toNat (Int.tmod (IntKind.wrap IntKind.i64 (Int.tmod x.snd.snd.fst (↑(List.length
  x.snd.fst) : Int) + (↑(List.length x.snd.fst) : Int))) (↑(List.length x.snd.fst) : Int))) (List.take (Int.toNat (↑(List.length x.snd.fst) : Int)) x.snd.fst)) = (80 : Int))) = Bool.true → True) ∧ (Decidable.decide (check
  x.fst (nilL (Bool × Int × Int × Unit) ++ List.drop (Int.toNat (0 : Int)) (List.take (Int.toNat (Int.tmod (IntKind.wrap IntKind.i64 (Int.tmod x.snd.snd.fst (↑(List.length x.snd.fst) : Int) + (↑(List.length x.snd.fst) :
  Int))) (↑(List.length x.snd.fst) : Int))) x.snd.fst) ++ List.drop (Int.toNat (IntKind.wrap IntKind.i64 (Int.tmod (IntKind.wrap IntKind.i64 (Int.tmod x.snd.snd.fst (↑(List.length x.snd.fst) : Int) + (↑(List.length
  x.snd.fst) : Int))) (↑(List.length x.snd.fst) : Int) + (1 : Int)))) (List.take (Int.toNat (↑(List.length x.snd.fst) : Int)) x.snd.fst)) = (80 : Int)) && Decidable.decide (check x.fst (nilL (Bool × Int × Int × Unit) ++
  List.drop (Int.toNat (0 : Int)) (List.take (Int.toNat (Int.tmod (IntKind.wrap IntKind.i64 (Int.tmod x.snd.snd.fst (↑(List.length x.snd.fst) : Int) + (↑(List.length x.snd.fst) : Int))) (↑(List.length x.snd.fst) : Int)))
  x.snd.fst) ++ List.getD x.snd.fst (Int.toNat (Int.tmod (IntKind.wrap IntKind.i64 (Int.tmod x.snd.snd.fst (↑(List.length x.snd.fst) : Int) + (↑(List.length x.snd.fst) : Int))) (↑(List.length x.snd.fst) : Int))) (Ty.zero
  markT) :: nilL (Bool × Int × Int × Unit) ++ List.drop (Int.toNat (Int.tmod (IntKind.wrap IntKind.i64 (Int.tmod x.snd.snd.fst (↑(List.length x.snd.fst) : Int) + (↑(List.length x.snd.fst) : Int))) (↑(List.length
  x.snd.fst) : Int))) (List.take (Int.toNat (↑(List.length x.snd.fst) : Int)) x.snd.fst)) = (80 : Int)) && Bool.true, ()) = (Bool.true, ()))) := by kernel_rfl
theorem v11_eq : vcFn g11 300 Try.f11 cPlays = ( ∀ (x : List (Int × Int × Bool × Unit) × Unit), Wr True → bcase (Decidable.decide ((↑(List.length x.fst) : Int) > (100 : Int))) (Wr True ∧ (Bool.true, ()) = (Bool.true, ())) (Wr ((0 : Int) ≤ (100 : Int)) ∧ Wr ((100 : Int)
  ≤ (100 : Int)) ∧ Wr ((↑(1 : Nat) : Int) * (100 : Int) ≤ (281474976710656 : Int)) ∧ Wr ((100 : Int) ≤ (9223372036854775807 : Int)) ∧ (Wr (PlInv x.fst (PlS.mk (0 : Int) (nilL ((Int × (Int × Int × Int × Int × Int × Int ×
  Int × Int × Unit) × Int × Unit) × Int × Int × Int × Bool × Unit)) (nilL (Bool × Int × Int × Unit)) (0 : Int) (List.replicate (Int.toNat (100 : Int)) Bool.false) (0 : Int) (0 : Int))) ∧ Wr (nilL ((Int × (Int × Int × Int
  × Int × Int × Int × Int × Int × Unit) × Int × Unit) × Int × Int × Int × Bool × Unit) = nilL ((Int × (Int × Int × Int × Int × Int × Int × Int × Int × Unit) × Int × Unit) × Int × Int × Int × Bool × Unit)) ∧ Wr (nilL (Bool
  × Int × Int × Unit) = nilL (Bool × Int × Int × Unit)) ∧ Wr ((0 : Int) = (0 : Int)) ∧ Wr ((0 : Int) = (0 : Int)) ∧ Wr ((0 : Int) = (0 : Int)) ∧ Wr ((0 : Int) = (0 : Int)) ∧ Wr (x.fst = x.fst) ∧ Wr (List.replicate
  (Int.toNat (100 : Int)) Bool.false = List.replicate (Int.toNat (100 : Int)) Bool.false)) ∧ ∀ (x_1 : PlS), Wr (PlInv x.fst x_1) → bcase (Decidable.decide (x_1.i < (↑(List.length x.fst) : Int))) (Wr ((0 : Int) ≤ x_1.i) ∧
  Wr (x_1.i < (↑(List.length x.fst) : Int)) ∧ Wr (Bool.true = Bool.true) ∧ bcase (Decidable.decide ((List.getD x.fst (Int.toNat x_1.i) (Ty.zero actT)).snd.fst < (0 : Int)) || Decidable.decide ((List.getD x.fst (Int.toNat
  x_1.i) (Ty.zero actT)).snd.fst > (1000 : Int))) (Wr True ∧ (Bool.true, ()) = (Bool.true, ())) (bcase (Decidable.decide ((List.getD x.fst (Int.toNat x_1.i) (Ty.zero actT)).fst < (0 : Int))) (Wr (okL x_1.l x_1.m =
  Bool.true) ∧ bcase (!Decidable.decide (lenS x_1.l = x_1.many)) ((Bool.false, ()) = (Bool.true, ())) (Wr (okL (addS x_1.l ((0 : Int), ((0 : Int), (0 : Int), (0 : Int), (0 : Int), (0 : Int), (0 : Int), (0 : Int), (0 :
  Int), ()), (0 : Int), ()) x_1.i (IntKind.wrap IntKind.i64 (x_1.now + (List.getD x.fst (Int.toNat x_1.i) (Ty.zero actT)).snd.fst))) (addM x_1.m Bool.false (lenS x_1.l) (IntKind.wrap IntKind.i64 (x_1.now + (List.getD
  x.fst (Int.toNat x_1.i) (Ty.zero actT)).snd.fst))) = Bool.true) ∧ Wr ((!!Decidable.decide (check (addS x_1.l ((0 : Int), ((0 : Int), (0 : Int), (0 : Int), (0 : Int), (0 : Int), (0 : Int), (0 : Int), (0 : Int), ()), (0 :
  Int), ()) x_1.i (IntKind.wrap IntKind.i64 (x_1.now + (List.getD x.fst (Int.toNat x_1.i) (Ty.zero actT)).snd.fst))) (addM x_1.m Bool.false (lenS x_1.l) (IntKind.wrap IntKind.i64 (x_1.now + (List.getD x.fst (Int.toNat
  x_1.i) (Ty.zero actT)).snd.fst))) = (0 : Int))) = Bool.true → okN (addS x_1.l ((0 : Int), ((0 : Int), (0 : Int), (0 : Int), (0 : Int), (0 : Int), (0 : Int), (0 : Int), (0 : Int), ()), (0 : Int), ()) x_1.i (IntKind.wrap
  IntKind.i64 (x_1.now + (List.getD x.fst (Int.toNat x_1.i) (Ty.zero actT)).snd.fst))) = Bool.true) ∧ bcase (!Decidable.decide (check (addS x_1.l ((0 : Int), ((0 : Int), (0 : Int), (0 : Int), (0 : Int), (0 : Int), (0 :
  Int), (0 : Int), (0 : Int), ()), (0 : Int), ()) x_1.i (IntKind.wrap IntKind.i64 (x_1.now + (List.getD x.fst (Int.toNat x_1.i) (Ty.zero actT)).snd.fst))) (addM x_1.m Bool.false (lenS x_1.l) (IntKind.wrap IntKind.i64
  (x_1.now + (List.getD x.fst (Int.toNat x_1.i) (Ty.zero actT)).snd.fst))) = (0 : Int)) || !Decidable.decide ((↑(List.length (places isOpen (0 : Nat) (addS x_1.l ((0 : Int), ((0 : Int), (0 : Int), (0 : Int), (0 : Int), (0
  : Int), (0 : Int), (0 : Int), (0 : Int), ()), (0 : Int), ()) x_1.i (IntKind.wrap IntKind.i64 (x_1.now + (List.getD x.fst (Int.toNat x_1.i) (Ty.zero actT)).snd.fst))))) : Int) = IntKind.wrap IntKind.i64 (IntKind.wrap
  IntKind.i64 (x_1.many + (1 : Int)) - x_1.gone)) || !Decidable.decide ((↑(List.length (addS x_1.l ((0 : Int), ((0 : Int), (0 : Int), (0 : Int), (0 : Int), (0 : Int), (0 : Int), (0 : Int), (0 : Int), ()), (0 : Int), ())
  x_1.i (IntKind.wrap IntKind.i64 (x_1.now + (List.getD x.fst (Int.toNat x_1.i) (Ty.zero actT)).snd.fst)))) : Int) = IntKind.wrap IntKind.i64 (x_1.many + (1 : Int)))) ((Bool.false, ()) = (Bool.true, ())) (Wr (PlInv x.fst
  (PlS.mk (IntKind.wrap IntKind.i64 (x_1.i + (1 : Int))) (addS x_1.l ((0 : Int), ((0 : Int), (0 : Int), (0 : Int), (0 : Int), (0 : Int), (0 : Int), (0 : Int), (0 : Int), ()), (0 : Int), ()) x_1.i (IntKind.wrap IntKind.i64
  (x_1.now + (List.getD x.fst (Int.toNat x_1.i) (Ty.zero actT)).snd.fst))) (addM x_1.m Bool.false (lenS x_1.l) (IntKind.wrap IntKind.i64 (x_1.now + (List.getD x.fst (Int.toNat x_1.i) (Ty.zero actT)).snd.fst)))
  (IntKind.wrap IntKind.i64 (x_1.now + (List.getD x.fst (Int.toNat x_1.i) (Ty.zero actT)).snd.fst)) x_1.shut (IntKind.wrap IntKind.i64 (x_1.many + (1 : Int))) x_1.gone)) ∧ Wr (List.length x.fst - Int.toNat (IntKind.wrap
  IntKind.i64 (x_1.i + (1 : Int))) < List.length x.fst - Int.toNat x_1.i) ∧ Wr (addS x_1.l ((0 : Int), ((0 : Int), (0 : Int), (0 : Int), (0 : Int), (0 : Int), (0 : Int), (0 : Int), (0 : Int), ()), (0 : Int), ()) x_1.i
  (IntKind.wrap IntKind.i64 (x_1.now + (List.getD x.fst (Int.toNat x_1.i) (Ty.zero actT)).snd.fst)) = addS x_1.l ((0 : Int), ((0 : Int), (0 : Int), (0 : Int), (0 : Int), (0 : Int), (0 : Int), (0 : Int), (0 : Int), ()), (0
  : Int), ()) x_1.i (IntKind.wrap IntKind.i64 (x_1.now + (List.getD x.fst (Int.toNat x_1.i) (Ty.zero actT)).snd.fst))) ∧ Wr (addM x_1.m Bool.false (lenS x_1.l) (IntKind.wrap IntKind.i64 (x_1.now + (List.getD x.fst
  (Int.toNat x_1.i) (Ty.zero actT)).snd.fst)) = addM x_1.m Bool.false (lenS x_1.l) (IntKind.wrap IntKind.i64 (x_1.now + (List.getD x.fst (Int.toNat x_1.i) (Ty.zero actT)).snd.fst))) ∧ Wr (IntKind.wrap IntKind.i64 (x_1.now
  + (List.getD x.fst (Int.toNat x_1.i) (Ty.zero actT)).snd.fst) = IntKind.wrap IntKind.i64 (x_1.now + (List.getD x.fst (Int.toNat x_1.i) (Ty.zero actT)).snd.fst)) ∧ Wr (IntKind.wrap IntKind.i64 (x_1.many + (1 : Int)) =
  IntKind.wrap IntKind.i64 (x_1.many + (1 : Int))) ∧ Wr (x_1.gone = x_1.gone) ∧ Wr (IntKind.wrap IntKind.i64 (x_1.i + (1 : Int)) = IntKind.wrap IntKind.i64 (x_1.i + (1 : Int))) ∧ Wr (x.fst = x.fst) ∧ Wr (x_1.shut =
  x_1.shut)))) (bcase (List.getD x.fst (Int.toNat x_1.i) (Ty.zero actT)).snd.snd.fst (Wr (okN x_1.l = Bool.true) ∧ Wr (Decidable.decide ((List.getD x.fst (Int.toNat x_1.i) (Ty.zero actT)).fst < x_1.many) = Bool.true → (0
  : Int) ≤ Min.min (List.getD x.fst (Int.toNat x_1.i) (Ty.zero actT)).fst (99 : Int)) ∧ Wr (Decidable.decide ((List.getD x.fst (Int.toNat x_1.i) (Ty.zero actT)).fst < x_1.many) = Bool.true → Min.min (List.getD x.fst
  (Int.toNat x_1.i) (Ty.zero actT)).fst (99 : Int) < (↑(List.length x_1.shut) : Int)) ∧ bcase (!Decidable.decide (drE x_1.l (List.getD x.fst (Int.toNat x_1.i) (Ty.zero actT)).fst = (0 : Int)) == (Decidable.decide
  ((List.getD x.fst (Int.toNat x_1.i) (Ty.zero actT)).fst < x_1.many) && !List.getD x_1.shut (Int.toNat (Min.min (List.getD x.fst (Int.toNat x_1.i) (Ty.zero actT)).fst (99 : Int))) Bool.false)) ((Bool.false, ()) =
  (Bool.true, ())) (bcase (Decidable.decide (drE x_1.l (List.getD x.fst (Int.toNat x_1.i) (Ty.zero actT)).fst = (0 : Int))) (Wr (okL (drA x_1.l (List.getD x.fst (Int.toNat x_1.i) (Ty.zero actT)).fst) x_1.m = Bool.true) ∧
  Wr ((!!Decidable.decide (check (drA x_1.l (List.getD x.fst (Int.toNat x_1.i) (Ty.zero actT)).fst) x_1.m = (0 : Int))) = Bool.true → okN (drA x_1.l (List.getD x.fst (Int.toNat x_1.i) (Ty.zero actT)).fst) = Bool.true) ∧
  bcase (!Decidable.decide (check (drA x_1.l (List.getD x.fst (Int.toNat x_1.i) (Ty.zero actT)).fst) x_1.m = (0 : Int)) || !Decidable.decide ((↑(List.length (places isOpen (0 : Nat) (drA x_1.l (List.getD x.fst (Int.toNat
  x_1.i) (Ty.zero actT)).fst))) : Int) = IntKind.wrap IntKind.i64 (x_1.many - x_1.gone)) || !Decidable.decide ((↑(List.length (drA x_1.l (List.getD x.fst (Int.toNat x_1.i) (Ty.zero actT)).fst)) : Int) = x_1.many))
  ((Bool.false, ()) = (Bool.true, ())) (Wr (PlInv x.fst (PlS.mk (IntKind.wrap IntKind.i64 (x_1.i + (1 : Int))) (drA x_1.l (List.getD x.fst (Int.toNat x_1.i) (Ty.zero actT)).fst) x_1.m (IntKind.wrap IntKind.i64 (x_1.now +
  (List.getD x.fst (Int.toNat x_1.i) (Ty.zero actT)).snd.fst)) x_1.shut x_1.many x_1.gone)) ∧ Wr (List.length x.fst - Int.toNat (IntKind.wrap IntKind.i64 (x_1.i + (1 : Int))) < List.length x.fst - Int.toNat x_1.i) ∧ Wr
  (drA x_1.l (List.getD x.fst (Int.toNat x_1.i) (Ty.zero actT)).fst = drA x_1.l (List.getD x.fst (Int.toNat x_1.i) (Ty.zero actT)).fst) ∧ Wr (x_1.m = x_1.m) ∧ Wr (IntKind.wrap IntKind.i64 (x_1.now + (List.getD x.fst
  (Int.toNat x_1.i) (Ty.zero actT)).snd.fst) = IntKind.wrap IntKind.i64 (x_1.now + (List.getD x.fst (Int.toNat x_1.i) (Ty.zero actT)).snd.fst)) ∧ Wr (x_1.many = x_1.many) ∧ Wr (x_1.gone = x_1.gone) ∧ Wr (IntKind.wrap
  IntKind.i64 (x_1.i + (1 : Int)) = IntKind.wrap IntKind.i64 (x_1.i + (1 : Int))) ∧ Wr (x.fst = x.fst) ∧ Wr (x_1.shut = x_1.shut))) (Wr (okL x_1.l x_1.m = Bool.true) ∧ Wr ((!!Decidable.decide (check x_1.l x_1.m = (0 :
  Int))) = Bool.true → okN x_1.l = Bool.true) ∧ bcase (!Decidable.decide (check x_1.l x_1.m = (0 : Int)) || !Decidable.decide ((↑(List.length (places isOpen (0 : Nat) x_1.l)) : Int) = IntKind.wrap IntKind.i64 (x_1.many -
  x_1.gone)) || !Decidable.decide ((↑(List.length x_1.l) : Int) = x_1.many)) ((Bool.false, ()) = (Bool.true, ())) (Wr (PlInv x.fst (PlS.mk (IntKind.wrap IntKind.i64 (x_1.i + (1 : Int))) x_1.l x_1.m (IntKind.wrap
  IntKind.i64 (x_1.now + (List.getD x.fst (Int.toNat x_1.i) (Ty.zero actT)).snd.fst)) x_1.shut x_1.many x_1.gone)) ∧ Wr (List.length x.fst - Int.toNat (IntKind.wrap IntKind.i64 (x_1.i + (1 : Int))) < List.length x.fst -
  Int.toNat x_1.i) ∧ Wr (x_1.l = x_1.l) ∧ Wr (x_1.m = x_1.m) ∧ Wr (IntKind.wrap IntKind.i64 (x_1.now + (List.getD x.fst (Int.toNat x_1.i) (Ty.zero actT)).snd.fst) = IntKind.wrap IntKind.i64 (x_1.now + (List.getD x.fst
  (Int.toNat x_1.i) (Ty.zero actT)).snd.fst)) ∧ Wr (x_1.many = x_1.many) ∧ Wr (x_1.gone = x_1.gone) ∧ Wr (IntKind.wrap IntKind.i64 (x_1.i + (1 : Int)) = IntKind.wrap IntKind.i64 (x_1.i + (1 : Int))) ∧ Wr (x.fst = x.fst) ∧
  Wr (x_1.shut = x_1.shut))))) (Wr (okL x_1.l x_1.m = Bool.true) ∧ bcase (!Decidable.decide (shE x_1.l (List.getD x.fst (Int.toNat x_1.i) (Ty.zero actT)).fst = (0 : Int)) == Decidable.decide ((List.getD x.fst (Int.toNat
  x_1.i) (Ty.zero actT)).fst < x_1.many)) ((Bool.false, ()) = (Bool.true, ())) (bcase (Decidable.decide (shE x_1.l (List.getD x.fst (Int.toNat x_1.i) (Ty.zero actT)).fst = (0 : Int))) (Wr ((0 : Int) ≤ (List.getD x.fst
  (Int.toNat x_1.i) (Ty.zero actT)).fst) ∧ Wr ((List.getD x.fst (Int.toNat x_1.i) (Ty.zero actT)).fst < (↑(List.length x_1.shut) : Int)) ∧ bcase (!List.getD x_1.shut (Int.toNat (List.getD x.fst (Int.toNat x_1.i) (Ty.zero
  actT)).fst) Bool.false) (Wr ((0 : Int) ≤ (List.getD x.fst (Int.toNat x_1.i) (Ty.zero actT)).fst) ∧ Wr ((List.getD x.fst (Int.toNat x_1.i) (Ty.zero actT)).fst < (↑(List.length x_1.shut) : Int)) ∧ Wr (okL (shA x_1.l
  (List.getD x.fst (Int.toNat x_1.i) (Ty.zero actT)).fst) (shB x_1.l x_1.m (List.getD x.fst (Int.toNat x_1.i) (Ty.zero actT)).fst (IntKind.wrap IntKind.i64 (x_1.now + (List.getD x.fst (Int.toNat x_1.i) (Ty.zero
  actT)).snd.fst))) = Bool.true) ∧ Wr ((!!Decidable.decide (check (shA x_1.l (List.getD x.fst (Int.toNat x_1.i) (Ty.zero actT)).fst) (shB x_1.l x_1.m (List.getD x.fst (Int.toNat x_1.i) (Ty.zero actT)).fst (IntKind.wrap
  IntKind.i64 (x_1.now + (List.getD x.fst (Int.toNat x_1.i) (Ty.zero actT)).snd.fst))) = (0 : Int))) = Bool.true → okN (shA x_1.l (List.getD x.fst (Int.toNat x_1.i) (Ty.zero actT)).fst) = Bool.true) ∧ bcase
  (!Decidable.decide (check (shA x_1.l (List.getD x.fst (Int.toNat x_1.i) (Ty.zero actT)).fst) (shB x_1.l x_1.m (List.getD x.fst (Int.toNat x_1.i) (Ty.zero actT)).fst (IntKind.wrap IntKind.i64 (x_1.now + (List.getD x.fst
  (Int.toNat x_1.i) (Ty.zero actT)).snd.fst))) = (0 : Int)) || !Decidable.decide ((↑(List.length (places isOpen (0 : Nat) (shA x_1.l (List.getD x.fst (Int.toNat x_1.i) (Ty.zero actT)).fst))) : Int) = IntKind.wrap
  IntKind.i64 (x_1.many - IntKind.wrap IntKind.i64 (x_1.gone + (1 : Int)))) || !Decidable.decide ((↑(List.length (shA x_1.l (List.getD x.fst (Int.toNat x_1.i) (Ty.zero actT)).fst)) : Int) = x_1.many)) ((Bool.false, ()) =
  (Bool.true, ())) (Wr (PlInv x.fst (PlS.mk (IntKind.wrap IntKind.i64 (x_1.i + (1 : Int))) (shA x_1.l (List.getD x.fst (Int.toNat x_1.i) (Ty.zero actT)).fst) (shB x_1.l x_1.m (List.getD x.fst (Int.toNat x_1.i) (Ty.zero
  actT)).fst (IntKind.wrap IntKind.i64 (x_1.now + (List.getD x.fst (Int.toNat x_1.i) (Ty.zero actT)).snd.fst))) (IntKind.wrap IntKind.i64 (x_1.now + (List.getD x.fst (Int.toNat x_1.i) (Ty.zero actT)).snd.fst)) (List.set
  x_1.shut (Int.toNat (List.getD x.fst (Int.toNat x_1.i) (Ty.zero actT)).fst) Bool.true) x_1.many (IntKind.wrap IntKind.i64 (x_1.gone + (1 : Int))))) ∧ Wr (List.length x.fst - Int.toNat (IntKind.wrap IntKind.i64 (x_1.i +
  (1 : Int))) < List.length x.fst - Int.toNat x_1.i) ∧ Wr (shA x_1.l (List.getD x.fst (Int.toNat x_1.i) (Ty.zero actT)).fst = shA x_1.l (List.getD x.fst (Int.toNat x_1.i) (Ty.zero actT)).fst) ∧ Wr (shB x_1.l x_1.m
  (List.getD x.fst (Int.toNat x_1.i) (Ty.zero actT)).fst (IntKind.wrap IntKind.i64 (x_1.now + (List.getD x.fst (Int.toNat x_1.i) (Ty.zero actT)).snd.fst)) = shB x_1.l x_1.m (List.getD x.fst (Int.toNat x_1.i) (Ty.zero
  actT)).fst (IntKind.wrap IntKind.i64 (x_1.now + (List.getD x.fst (Int.toNat x_1.i) (Ty.zero actT)).snd.fst))) ∧ Wr (IntKind.wrap IntKind.i64 (x_1.now + (List.getD x.fst (Int.toNat x_1.i) (Ty.zero actT)).snd.fst) =
  IntKind.wrap IntKind.i64 (x_1.now + (List.getD x.fst (Int.toNat x_1.i) (Ty.zero actT)).snd.fst)) ∧ Wr (x_1.many = x_1.many) ∧ Wr (IntKind.wrap IntKind.i64 (x_1.gone + (1 : Int)) = IntKind.wrap IntKind.i64 (x_1.gone + (1
  : Int))) ∧ Wr (IntKind.wrap IntKind.i64 (x_1.i + (1 : Int)) = IntKind.wrap IntKind.i64 (x_1.i + (1 : Int))) ∧ Wr (x.fst = x.fst) ∧ Wr (List.set x_1.shut (Int.toNat (List.getD x.fst (Int.toNat x_1.i) (Ty.zero actT)).fst)
  Bool.true = List.set x_1.shut (Int.toNat (List.getD x.fst (Int.toNat x_1.i) (Ty.zero actT)).fst) Bool.true))) (Wr ((0 : Int) ≤ (List.getD x.fst (Int.toNat x_1.i) (Ty.zero actT)).fst) ∧ Wr ((List.getD x.fst (Int.toNat
  x_1.i) (Ty.zero actT)).fst < (↑(List.length x_1.shut) : Int)) ∧ Wr (okL (shA x_1.l (List.getD x.fst (Int.toNat x_1.i) (Ty.zero actT)).fst) (shB x_1.l x_1.m (List.getD x.fst (Int.toNat x_1.i) (Ty.zero actT)).fst
  (IntKind.wrap IntKind.i64 (x_1.now + (List.getD x.fst (Int.toNat x_1.i) (Ty.zero actT)).snd.fst))) = Bool.true) ∧ Wr ((!!Decidable.decide (check (shA x_1.l (List.getD x.fst (Int.toNat x_1.i) (Ty.zero actT)).fst) (shB
  x_1.l x_1.m (List.getD x.fst (Int.toNat x_1.i) (Ty.zero actT)).fst (IntKind.wrap IntKind.i64 (x_1.now + (List.getD x.fst (Int.toNat x_1.i) (Ty.zero actT)).snd.fst))) = (0 : Int))) = Bool.true → okN (shA x_1.l (List.getD
  x.fst (Int.toNat x_1.i) (Ty.zero actT)).fst) = Bool.true) ∧ bcase (!Decidable.decide (check (shA x_1.l (List.getD x.fst (Int.toNat x_1.i) (Ty.zero actT)).fst) (shB x_1.l x_1.m (List.getD x.fst (Int.toNat x_1.i) (Ty.zero
  actT)).fst (IntKind.wrap IntKind.i64 (x_1.now + (List.getD x.fst (Int.toNat x_1.i) (Ty.zero actT)).snd.fst))) = (0 : Int)) || !Decidable.decide ((↑(List.length (places isOpen (0 : Nat) (shA x_1.l (List.getD x.fst
  (Int.toNat x_1.i) (Ty.zero actT)).fst))) : Int) = IntKind.wrap IntKind.i64 (x_1.many - x_1.gone)) || !Decidable.decide ((↑(List.length (shA x_1.l (List.getD x.fst (Int.toNat x_1.i) (Ty.zero actT)).fst)) : Int) =
  x_1.many)) ((Bool.false, ()) = (Bool.true, ())) (Wr (PlInv x.fst (PlS.mk (IntKind.wrap IntKind.i64 (x_1.i + (1 : Int))) (shA x_1.l (List.getD x.fst (Int.toNat x_1.i) (Ty.zero actT)).fst) (shB x_1.l x_1.m (List.getD
  x.fst (Int.toNat x_1.i) (Ty.zero actT)).fst (IntKind.wrap IntKind.i64 (x_1.now + (List.getD x.fst (Int.toNat x_1.i) (Ty.zero actT)).snd.fst))) (IntKind.wrap IntKind.i64 (x_1.now + (List.getD x.fst (Int.toNat x_1.i)
  (Ty.zero actT)).snd.fst)) (List.set x_1.shut (Int.toNat (List.getD x.fst (Int.toNat x_1.i) (Ty.zero actT)).fst) Bool.true) x_1.many x_1.gone)) ∧ Wr (List.length x.fst - Int.toNat (IntKind.wrap IntKind.i64 (x_1.i + (1 :
  Int))) < List.length x.fst - Int.toNat x_1.i) ∧ Wr (shA x_1.l (List.getD x.fst (Int.toNat x_1.i) (Ty.zero actT)).fst = shA x_1.l (List.getD x.fst (Int.toNat x_1.i) (Ty.zero actT)).fst) ∧ Wr (shB x_1.l x_1.m (List.getD
  x.fst (Int.toNat x_1.i) (Ty.zero actT)).fst (IntKind.wrap IntKind.i64 (x_1.now + (List.getD x.fst (Int.toNat x_1.i) (Ty.zero actT)).snd.fst)) = shB x_1.l x_1.m (List.getD x.fst (Int.toNat x_1.i) (Ty.zero actT)).fst
  (IntKind.wrap IntKind.i64 (x_1.now + (List.getD x.fst (Int.toNat x_1.i) (Ty.zero actT)).snd.fst))) ∧ Wr (IntKind.wrap IntKind.i64 (x_1.now + (List.getD x.fst (Int.toNat x_1.i) (Ty.zero actT)).snd.fst) = IntKind.wrap
  IntKind.i64 (x_1.now + (List.getD x.fst (Int.toNat x_1.i) (Ty.zero actT)).snd.fst)) ∧ Wr (x_1.many = x_1.many) ∧ Wr (x_1.gone = x_1.gone) ∧ Wr (IntKind.wrap IntKind.i64 (x_1.i + (1 : Int)) = IntKind.wrap IntKind.i64
  (x_1.i + (1 : Int))) ∧ Wr (x.fst = x.fst) ∧ Wr (List.set x_1.shut (Int.toNat (List.getD x.fst (Int.toNat x_1.i) (Ty.zero actT)).fst) Bool.true = List.set x_1.shut (Int.toNat (List.getD x.fst (Int.toNat x_1.i) (Ty.zero
  actT)).fst) Bool.true)))) (Wr (okL x_1.l x_1.m = Bool.true) ∧ Wr ((!!Decidable.decide (check x_1.l x_1.m = (0 : Int))) = Bool.true → okN x_1.l = Bool.true) ∧ bcase (!Decidable.decide (check x_1.l x_1.m = (0 : Int)) ||
  !Decidable.decide ((↑(List.length (places isOpen (0 : Nat) x_1.l)) : Int) = IntKind.wrap IntKind.i64 (x_1.many - x_1.gone)) || !Decidable.decide ((↑(List.length x_1.l) : Int) = x_1.many)) ((Bool.false, ()) = (Bool.true,
  ())) (Wr (PlInv x.fst (PlS.mk (IntKind.wrap IntKind.i64 (x_1.i + (1 : Int))) x_1.l x_1.m (IntKind.wrap IntKind.i64 (x_1.now + (List.getD x.fst (Int.toNat x_1.i) (Ty.zero actT)).snd.fst)) x_1.shut x_1.many x_1.gone)) ∧
  Wr (List.length x.fst - Int.toNat (IntKind.wrap IntKind.i64 (x_1.i + (1 : Int))) < List.length x.fst - Int.toNat x_1.i) ∧ Wr (x_1.l = x_1.l) ∧ Wr (x_1.m = x_1.m) ∧ Wr (IntKind.wrap IntKind.i64 (x_1.now + (List.getD
  x.fst (Int.toNat x_1.i) (Ty.zero actT)).snd.fst) = IntKind.wrap IntKind.i64 (x_1.now + (List.getD x.fst (Int.toNat x_1.i) (Ty.zero actT)).snd.fst)) ∧ Wr (x_1.many = x_1.many) ∧ Wr (x_1.gone = x_1.gone) ∧ Wr
  (IntKind.wrap IntKind.i64 (x_1.i + (1 : Int)) = IntKind.wrap IntKind.i64 (x_1.i + (1 : Int))) ∧ Wr (x.fst = x.fst) ∧ Wr (x_1.shut = x_1.shut)))))))) (Wr True ∧ (Bool.true, ()) = (Bool.true, ())))) := by kernel_rfl
end Go.Proofs.Ytfkfjbppncbkjaa.Sk
set_option linter.all false
namespace Go.Proofs.Ytfkfjbppncbkjaa.Sk
open Go Go.Eng
set_option maxRecDepth 100000
set_option maxHeartbeats 1000000

theorem CkInv.bad {l : List Sk} {m : List Mk} {x : CkS} (h : CkInv l m x) {many : Int} {cnt : List Int} (hc : cnt.length = l.length)
    (hq : (ckGo l (m.drop x.i.toNat) (decide (x.i = 0)) x.many x.last x.cnt).1 = true) : CkEnd l m (true, many, cnt) := by
  refine ⟨hc, ?_⟩
  rw [h.go] at hq
  simp [check, hq]

theorem CkInv.on {l : List Sk} {m : List Mk} {x : CkS} (h : CkInv l m x) (hm : m.length ≤ 1000000) (hi : x.i < m.length) {many : Int} {cnt : List Int} {last : Int} (hc : cnt.length = l.length) (h0 : 0 ≤ many) (h1 : many ≤ l.length) (hcc : ∀ c ∈ cnt, 0 ≤ c ∧ c ≤ x.i + 1)
    (hq : ckGo l (m.drop x.i.toNat) (decide (x.i = 0)) x.many x.last x.cnt = ckGo l (m.drop (x.i + 1).toNat) false many last cnt) :
    CkInv l m ⟨IntKind.wrap IntKind.i64 (x.i + 1), many, last, cnt⟩ ∧ m.length - (IntKind.wrap IntKind.i64 (x.i + 1)).toNat < m.length - x.i.toNat := by
  have := h.i0
  rw [wrap_id (by omega) (by omega)]
  refine ⟨⟨by simp only; omega, by simp only; omega, hc, h0, h1, hcc, ?_⟩, by omega⟩
  simp only
  rw [← h.go, hq]
  have : decide (x.i + 1 = 0) = false := by simp; omega
  rw [this]

theorem CkInv.bad' {l : List Sk} {m : List Mk} {x : CkS} (h : CkInv l m x) {b : Bool} {many : Int} {cnt : List Int} (hc : cnt.length = l.length) (hb : b = true)
    (hq : (ckGo l (m.drop x.i.toNat) (decide (x.i = 0)) x.many x.last x.cnt).1 = true) : CkEnd l m (b, many, cnt) := hb ▸ h.bad hc hq
theorem v31 : Vc g31 300 Try.f31 cCheck := by
  constructor
  rw [v31_eq]
  simp only [Wr_iff, bcase_iff, true_and, and_true, decide_eq_true_eq, decide_eq_false_iff_not, Bool.and_eq_true, Bool.and_eq_false_iff, Bool.or_eq_true, Bool.or_eq_false_iff, Bool.not_eq_true', Bool.not_eq_false', Option.map_some, Option.getD_some, Option.isSome_some, Option.isSome_map, imp_self, nilL, noneO]
  intro x
  generalize x.fst = l
  generalize x.snd.fst = m
  intro hx
  simp only [okL, Bool.and_eq_true, decide_eq_true_eq] at hx
  obtain ⟨hl, hm⟩ := hx
  refine ⟨by omega, by omega, by omega, by omega, ⟨⟨by simp, by simp, by simp, by simp, by simp, fun c hc => by simp at hc; simp; omega, by simp⟩, ?_⟩, ?_⟩
  · intro x hx
    have g0 := hx.i0
    refine ⟨fun hi => ?_, fun hi => ?_⟩
    · have hd := drop_cons m x.i markT.zero g0 hi
      generalize List.getD m x.i.toNat markT.zero = y at hd ⊢
      refine ⟨g0, hi, ?_⟩
      have hlen := hx.cnt
      have m0 := hx.m0
      have m1 := hx.m1
      have bad : ∀ (b : Bool) (many : Int) (cnt : List Int), cnt.length = l.length → b = true → (ckGo l (y :: m.drop (x.i + 1).toNat) (decide (x.i = 0)) x.many x.last x.cnt).1 = true → CkEnd l m (b, many, cnt) := by
        intro b many cnt h1 h2 h3
        exact hx.bad' h1 h2 (by rw [hd]; exact h3)
      have on : ∀ (many : Int) (cnt : List Int) (last : Int), cnt.length = l.length → 0 ≤ many → many ≤ l.length → (∀ c ∈ cnt, 0 ≤ c ∧ c ≤ x.i + 1) → ckGo l (y :: m.drop (x.i + 1).toNat) (decide (x.i = 0)) x.many x.last x.cnt = ckGo l (m.drop (x.i + 1).toNat) false many last cnt →
          CkInv l m ⟨x.i + 1, many, last, cnt⟩ := by
        intro many cnt last h1 h2 h3 h4 h5
        have := (hx.on hm hi h1 h2 h3 h4 (by rw [hd]; exact h5)).1
        rwa [wrap_id (by omega) (by omega)] at this
      have iw : IntKind.wrap IntKind.i64 (x.i + 1) = x.i + 1 := wrap_id (by omega) (by omega)
      rw [iw]
      have cw : ∀ k : Int, 0 ≤ k → k < x.many → IntKind.wrap IntKind.i64 (x.cnt.getD k.toNat 0 + 1) = x.cnt.getD k.toNat 0 + 1 ∧ ∀ c ∈ x.cnt.set k.toNat (x.cnt.getD k.toNat 0 + 1), 0 ≤ c ∧ c ≤ x.i + 1 := by
        intro k h1 h2
        have hk : k.toNat < x.cnt.length := by omega
        have hmem : x.cnt.getD k.toNat 0 ∈ x.cnt := by
          rw [List.getD_eq_getElem?_getD, List.getElem?_eq_getElem hk]; exact List.getElem_mem hk
        have := hx.c _ hmem
        refine ⟨wrap_id (by omega) (by omega), fun c hc => ?_⟩
        rcases List.mem_or_eq_of_mem_set hc with h | h
        · have := hx.c c h; omega
        · omega
      have old : ∀ c ∈ x.cnt, 0 ≤ c ∧ c ≤ x.i + 1 := fun c hc => by have := hx.c c hc; omega
      have mw : x.many < l.length → IntKind.wrap IntKind.i64 (x.many + 1) = x.many + 1 := fun h => wrap_id (by omega) (by omega)
      clear hd hm
      rw [ckGo] at bad on
      repeat' (first | with_reducible apply And.intro | intro _)
      all_goals first | omega | grind | skip
    · have : x.i = m.length := by have := hx.i1; omega
      refine ⟨hx.cnt, ?_⟩
      have hg := hx.go
      rw [List.drop_eq_nil_of_le (by omega), ckGo] at hg
      simp only [check, ← hg]
  · intro z hz
    refine ⟨⟨by simp, by simp, by simp⟩, fun x hx => ?_⟩
    obtain ⟨h0, h1, h2⟩ := hx
    refine ⟨fun hi => ?_, fun hi => ?_⟩
    · rw [wrap_id (by omega) (by omega)]
      refine ⟨h0, hi, fun _ => h0, fun _ => by rw [hz.1]; exact hi, ⟨by simp only; omega, by simp only; omega, ?_⟩, by omega⟩
      have e : (x.1 + 1).toNat = x.1.toNat + 1 := by omega
      simp only [e, List.range_succ, List.any_append, List.any_cons, List.any_nil, Bool.or_false, h2, Bool.or_assoc]
      congr 1
      congr 1
      simp [shutOf]
    · have hf := hz.2
      have e : x.1 = l.length := by omega
      rw [e] at h2
      simp only [mism] at hf
      simp only [Int.toNat_natCast] at h2
      have e3 : (z.1 || mism l z.2.2) = x.2 := h2.symm
      simp only [hf, e3]
      grind

theorem v65 : Vc g65 300 Try.f65 (cTest isOpen) := by
  constructor
  rw [v65_eq]
  simp only [Wr_iff, bcase_iff, true_and, and_true, decide_eq_true_eq, decide_eq_false_iff_not, Bool.and_eq_true, Bool.and_eq_false_iff, Bool.or_eq_true, Bool.or_eq_false_iff, Bool.not_eq_true', Bool.not_eq_false', Option.map_some, Option.getD_some, Option.isSome_some, Option.isSome_map, imp_self, nilL, noneO]
  intro x _
  rfl
theorem v66 : Vc g66 300 Try.f66 (cTest isTwice) := by
  constructor
  rw [v66_eq]
  simp only [Wr_iff, bcase_iff, true_and, and_true, decide_eq_true_eq, decide_eq_false_iff_not, Bool.and_eq_true, Bool.and_eq_false_iff, Bool.or_eq_true, Bool.or_eq_false_iff, Bool.not_eq_true', Bool.not_eq_false', Option.map_some, Option.getD_some, Option.isSome_some, Option.isSome_map, imp_self, nilL, noneO]
  intro x _
  rfl
theorem v60 : Vc g60 300 Try.f60 (cClip sockT) := by
  constructor
  rw [v60_eq]
  simp only [Wr_iff, bcase_iff, true_and, and_true, decide_eq_true_eq, decide_eq_false_iff_not, Bool.and_eq_true, Bool.and_eq_false_iff, Bool.or_eq_true, Bool.or_eq_false_iff, Bool.not_eq_true', Bool.not_eq_false', Option.map_some, Option.getD_some, Option.isSome_some, Option.isSome_map, imp_self, nilL, noneO]
  intro x _
  refine ⟨by omega, by omega, by omega, ?_⟩
  simp
theorem v61 : Vc g61 300 Try.f61 (cClip markT) := by
  constructor
  rw [v61_eq]
  simp only [Wr_iff, bcase_iff, true_and, and_true, decide_eq_true_eq, decide_eq_false_iff_not, Bool.and_eq_true, Bool.and_eq_false_iff, Bool.or_eq_true, Bool.or_eq_false_iff, Bool.not_eq_true', Bool.not_eq_false', Option.map_some, Option.getD_some, Option.isSome_some, Option.isSome_map, imp_self, nilL, noneO]
  intro x _
  refine ⟨by omega, by omega, by omega, ?_⟩
  simp
theorem v63 : Vc g63 300 Try.f63 (cClone 83 64 sockT) := by
  constructor
  rw [v63_eq]
  simp only [Wr_iff, bcase_iff, true_and, and_true, decide_eq_true_eq, decide_eq_false_iff_not, Bool.and_eq_true, Bool.and_eq_false_iff, Bool.or_eq_true, Bool.or_eq_false_iff, Bool.not_eq_true', Bool.not_eq_false', Option.map_some, Option.getD_some, Option.isSome_some, Option.isSome_map, imp_self, nilL, noneO]
  intro x hx b hb
  exact ⟨hb, fun _ => ⟨by simp; omega, rfl⟩⟩
theorem v43 : Vc g43 300 Try.f43 cOpen := by
  constructor
  rw [v43_eq]
  simp only [Wr_iff, bcase_iff, true_and, and_true, decide_eq_true_eq, decide_eq_false_iff_not, Bool.and_eq_true, Bool.and_eq_false_iff, Bool.or_eq_true, Bool.or_eq_false_iff, Bool.not_eq_true', Bool.not_eq_false', Option.map_some, Option.getD_some, Option.isSome_some, Option.isSome_map, imp_self, nilL, noneO]
  intro x
  generalize x.fst = l
  generalize x.snd.fst = m
  intro hx
  simp only [okL, Bool.and_eq_true, decide_eq_true_eq] at hx
  obtain ⟨hl, hm⟩ := hx
  refine ⟨by simp; omega, by simp, by simp; omega, by simp, rfl⟩
theorem v45 : Vc g45 300 Try.f45 cShut := by
  constructor
  rw [v45_eq]
  simp only [Wr_iff, bcase_iff, true_and, and_true, decide_eq_true_eq, decide_eq_false_iff_not, Bool.and_eq_true, Bool.and_eq_false_iff, Bool.or_eq_true, Bool.or_eq_false_iff, Bool.not_eq_true', Bool.not_eq_false', Option.map_some, Option.getD_some, Option.isSome_some, Option.isSome_map, imp_self, nilL, noneO]
  intro x
  generalize x.fst = l
  generalize x.snd.fst = m
  intro hx
  simp only [okL, Bool.and_eq_true, decide_eq_true_eq] at hx
  obtain ⟨hl, hm⟩ := hx
  have hr : inR x.snd.snd.fst l = true ↔ 0 ≤ x.snd.snd.fst ∧ x.snd.snd.fst < l.length := by simp [inR]
  refine ⟨fun h => ?_, fun h => ?_⟩
  · simp only [shA, shB, shE]; rw [if_neg (by rw [hr]; omega), if_neg (by rw [hr]; omega), if_neg (by rw [hr]; omega)]
  · simp only [shA, shB, shE]; rw [if_pos (by rw [hr]; omega), if_pos (by rw [hr]; omega), if_pos (by rw [hr]; omega)]
    refine ⟨by omega, by omega, by omega, by omega, by omega, by simp; omega, by simp, ?_⟩
    rfl
theorem v44 : Vc g44 300 Try.f44 cDrop := by
  constructor
  rw [v44_eq]
  simp only [Wr_iff, bcase_iff, true_and, and_true, decide_eq_true_eq, decide_eq_false_iff_not, Bool.and_eq_true, Bool.and_eq_false_iff, Bool.or_eq_true, Bool.or_eq_false_iff, Bool.not_eq_true', Bool.not_eq_false', Option.map_some, Option.getD_some, Option.isSome_some, Option.isSome_map, imp_self, nilL, noneO]
  intro x
  generalize x.fst = l
  intro hx
  simp only [okN, decide_eq_true_eq] at hx
  refine ⟨by simp, fun h => ?_, fun h => ?_⟩
  · simp only [drA, drE]; rw [if_neg (by simpa using h), if_neg (by simpa using h)]
  · have h' : opens l x.snd.fst = true := by simpa using h
    simp only [drA, drE]
    rw [if_pos h', if_pos h']
    simp only [opens, inR, Bool.and_eq_true, decide_eq_true_eq] at h'
    refine ⟨by omega, by omega, by omega, ?_⟩
    rfl
theorem v62 : Vc g62 300 Try.f62 cIsOpen := by
  constructor
  rw [v62_eq]
  simp only [Wr_iff, bcase_iff, true_and, and_true, decide_eq_true_eq, decide_eq_false_iff_not, Bool.and_eq_true, Bool.and_eq_false_iff, Bool.or_eq_true, Bool.or_eq_false_iff, Bool.not_eq_true', Bool.not_eq_false', Option.map_some, Option.getD_some, Option.isSome_some, Option.isSome_map, imp_self, nilL, noneO]
  intro x
  generalize x.fst = l
  generalize x.snd.fst = ns
  intro hn
  refine ⟨⟨by omega, by omega, by simp⟩, ?_⟩
  rintro i ⟨h0, h1, h2⟩
  refine ⟨fun hi => ?_, fun hi => ?_⟩
  · have hk : i.toNat < ns.length := by omega
    have hg : ns.getD i.toNat 0 = ns[i.toNat] := by rw [List.getD_eq_getElem?_getD, List.getElem?_eq_getElem hk]; rfl
    rw [hg]
    have hmem : ns[i.toNat] ∈ ns := List.getElem_mem hk
    rw [wrap_id (by omega) (by omega)]
    refine ⟨h0, hi, fun h => by omega, fun h => by omega, fun _ => trivial, ?_⟩
    refine ⟨fun _ => trivial, fun h => ?_, fun h => ?_⟩
    · have : opens l ns[i.toNat] = false := by
        simp only [opens, inR]
        rcases h with h | h
        · simp; omega
        · simp [h]
      have : ns.all (opens l) = false := by
        rw [List.all_eq_false]
        exact ⟨_, hmem, by simpa using this⟩
      rw [this]
    · have : opens l ns[i.toNat] = true := by
        simp only [opens, inR, Bool.and_eq_true, decide_eq_true_eq]
        obtain ⟨⟨h, h'⟩, h''⟩ := h
        exact ⟨⟨by omega, by omega⟩, h''⟩
      refine ⟨⟨by omega, by omega, ?_⟩, by omega⟩
      rw [take_succ ns i 0 h0 hi, List.all_append, h2, hg]
      simp [this]
  · have : ns.take i.toNat = ns := List.take_of_length_le (by omega)
    rw [this] at h2
    rw [h2]
end Go.Proofs.Ytfkfjbppncbkjaa.Sk
set_option linter.all false
namespace Go.Proofs.Ytfkfjbppncbkjaa.Sk
open Go Go.Eng
theorem sum_set1 : ∀ (c : List Int) (i : Nat), i < c.length → (c.set i (c.getD i 0 + 1)).sum = c.sum + 1
  | x :: c, 0, _ => by simp; omega
  | x :: c, i + 1, h => by
    have := sum_set1 c i (by simpa using h)
    simp only [List.set_cons_succ, List.sum_cons, List.getD_cons_succ, this]
    omega
theorem ckGo_len (l : List Sk) : ∀ (m : List Mk) (f : Bool) (k la : Int) (c : List Int) (M : Int) (C : List Int), ckGo l m f k la c = (false, M, C) → 0 ≤ k → k ≤ l.length → c.length = l.length →
    M + C.sum = k + c.sum + m.length ∧ C.length = l.length ∧ 0 ≤ M ∧ M ≤ l.length
  | [], f, k, la, c, M, C, h, h0, h1, hc => by
    simp only [ckGo, Prod.mk.injEq, true_and] at h
    obtain ⟨rfl, rfl⟩ := h
    simp [h0, h1, hc]
  | x :: r, f, k, la, c, M, C, h, h0, h1, hc => by
    simp only [ckGo] at h
    split at h
    · simp at h
    · split at h
      · split at h
        · simp at h
        · rename_i h2
          simp at h2
          have := ckGo_len l r false k x.2.2.1 _ M C h h0 h1 (by simpa using hc)
          rw [sum_set1 c x.2.1.toNat (by omega)] at this
          simp only [List.length_cons]
          omega
      · split at h
        · simp at h
        · rename_i h2
          simp at h2
          have := ckGo_len l r false (k + 1) x.2.2.1 c M C h (by omega) (by omega) hc
          simp only [List.length_cons]
          omega
/-- how often all of them were shut -/
def shuts (l : List Sk) : Int := (l.map shutOf).sum
theorem mism_false {l : List Sk} {c : List Int} (hc : c.length = l.length) (h : mism l c = false) : l.map shutOf = c := by
  apply List.ext_getElem
  · simp [hc]
  · intro i h1 h2
    simp only [mism, List.any_eq_false, List.mem_range] at h
    have := h i (by simpa using h1)
    simp only [List.length_map] at h1
    simp only [decide_eq_true_eq, Decidable.not_not, List.getD_eq_getElem?_getD, List.getElem?_eq_getElem h1, List.getElem?_eq_getElem h2, Option.getD_some] at this
    rw [List.getElem_map, ← this]
    have e : l.getD i zS = l[i] := by rw [List.getD_eq_getElem?_getD, List.getElem?_eq_getElem h1]; rfl
    exact congrArg shutOf e.symm
theorem check_len {l : List Sk} {m : List Mk} (h : check l m = 0) : (m.length : Int) = l.length + shuts l := by
  unfold check at h
  generalize hq : ckGo l m true 0 0 (List.replicate l.length 0) = q at h
  obtain ⟨b, M, C⟩ := q
  simp only at h
  split at h
  · omega
  · rename_i h2
    simp only [Bool.or_eq_true, decide_eq_true_eq, not_or, Bool.not_eq_true, Decidable.not_not] at h2
    obtain ⟨⟨rfl, h3⟩, rfl⟩ := h2
    have := ckGo_len l m true 0 0 _ _ C hq (by omega) (by omega) (by simp)
    simp only [List.sum_replicate_int, Int.mul_zero] at this
    unfold shuts
    rw [mism_false this.2.1 h3]
    omega
theorem check_two (l : List Sk) (m : List Mk) : check l m = 0 ∨ check l m = 80 := by
  unfold check
  simp only
  split <;> simp
theorem check_less {l : List Sk} {m m' : List Mk} (h : check l m = 0) (hl : m'.length ≠ m.length) : check l m' = 80 := by
  rcases check_two l m' with h' | h'
  · have := check_len h; have := check_len h'; omega
  · exact h'
end Go.Proofs.Ytfkfjbppncbkjaa.Sk
set_option linter.all false
namespace Go.Proofs.Ytfkfjbppncbkjaa.Sk
open Go Go.Eng
theorem getS (l : List Sk) (i : Nat) (hi : i < l.length) : l.getD i sockT.zero = l[i] := show l.getD i zS = l[i] by rw [List.getD_eq_getElem?_getD, List.getElem?_eq_getElem hi]; rfl
theorem lastAt_cons (x y : Mk) (r : List Mk) : lastAt (x :: y :: r) = lastAt (y :: r) := by
  simp [lastAt, List.getLast?_cons_cons]
theorem lastAt_snoc (m : List Mk) (s : Bool) (n now : Int) : lastAt (addM m s n now) = now := by
  simp [lastAt, addM, mkM]
theorem ckGo_snoc (l : List Sk) (y : Mk) : ∀ (m : List Mk) (f : Bool) (k la : Int) (c : List Int) (M : Int) (C : List Int), ckGo l m f k la c = (false, M, C) →
    ckGo l (m ++ [y]) f k la c = ckGo l [y] (f && m.isEmpty) M (if m.isEmpty then la else lastAt m) C
  | [], f, k, la, c, M, C, h => by
    simp only [ckGo, Prod.mk.injEq, true_and] at h
    obtain ⟨rfl, rfl⟩ := h
    simp
  | x :: r, f, k, la, c, M, C, h => by
    have hl : (if r.isEmpty then x.2.2.1 else lastAt r) = lastAt (x :: r) := by
      cases r with
      | nil => rfl
      | cons y r => rw [lastAt_cons]; rfl
    simp only [List.cons_append, List.isEmpty_cons, Bool.and_false, Bool.false_eq_true, if_false]
    rw [ckGo]
    rw [ckGo] at h
    split at h
    · simp at h
    · rename_i h1
      rw [if_neg h1]
      split at h
      · rename_i h2
        rw [if_pos h2]
        split at h
        · simp at h
        · rename_i h3
          rw [if_neg h3, ckGo_snoc l y r _ _ _ _ M C h, hl, Bool.false_and]
      · rename_i h2
        rw [if_neg h2]
        split at h
        · simp at h
        · rename_i h3
          rw [if_neg h3, ckGo_snoc l y r _ _ _ _ M C h, hl, Bool.false_and]
theorem ckGo_more (l : List Sk) (s : Sk) : ∀ (m : List Mk) (f : Bool) (k la : Int) (c : List Int) (M : Int) (C : List Int), ckGo l m f k la c = (false, M, C) → c.length = l.length → 0 ≤ k → k ≤ l.length →
    ckGo (l ++ [s]) m f k la (c ++ [0]) = (false, M, C ++ [0])
  | [], f, k, la, c, M, C, h, _, _, _ => by
    simp only [ckGo, Prod.mk.injEq, true_and] at h
    obtain ⟨rfl, rfl⟩ := h
    rfl
  | x :: r, f, k, la, c, M, C, h, hc, k0, k1 => by
    rw [ckGo]
    rw [ckGo] at h
    split at h
    · simp at h
    · rename_i h1
      rw [if_neg h1]
      split at h
      · rename_i h2
        rw [if_pos h2]
        split at h
        · simp at h
        · rename_i h3
          rw [if_neg h3]
          simp only [Bool.or_eq_true, decide_eq_true_eq, not_or] at h3
          have hi : x.2.1.toNat < c.length := by omega
          rw [List.set_append_left _ _ hi]
          have e : (c ++ [0]).getD x.2.1.toNat 0 = c.getD x.2.1.toNat 0 := by
            simp only [List.getD_eq_getElem?_getD, List.getElem?_append_left hi]
          rw [e]
          exact ckGo_more l s r _ _ _ _ M C h (by simpa using hc) k0 k1
      · rename_i h2
        rw [if_neg h2]
        split at h
        · simp at h
        · rename_i h3
          simp only [Bool.or_eq_true, decide_eq_true_eq, not_or, Decidable.not_not] at h3
          have hi : k.toNat < l.length := by omega
          have e : (l ++ [s]).getD k.toNat zS = l.getD k.toNat zS := by
            simp only [List.getD_eq_getElem?_getD, List.getElem?_append_left hi]
          have h4 : ¬((decide (x.2.1 ≠ k) || decide (k ≥ (l ++ [s]).length) || decide (openedOf ((l ++ [s]).getD k.toNat zS) ≠ x.2.2.1)) = true) := by
            rw [e]
            simp only [Bool.or_eq_true, decide_eq_true_eq, not_or, Decidable.not_not, List.length_append, List.length_cons, List.length_nil]
            exact ⟨⟨h3.1.1, by omega⟩, h3.2⟩
          refine Eq.trans (if_neg h4) ?_
          exact ckGo_more l s r _ _ _ _ M C h hc (by omega) (by omega)
theorem ckGo_same (l l' : List Sk) (hl : l'.length = l.length) (ho : ∀ i, openedOf (l'.getD i zS) = openedOf (l.getD i zS)) : ∀ (m : List Mk) (f : Bool) (k la : Int) (c : List Int), ckGo l' m f k la c = ckGo l m f k la c
  | [], f, k, la, c => rfl
  | x :: r, f, k, la, c => by
    have e : ∀ i, openedOf (l'.getD i sockT.zero) = openedOf (l.getD i sockT.zero) := ho
    rw [ckGo, ckGo, hl, e]
    simp only [ckGo_same l l' hl ho r]
theorem check_iff (l : List Sk) (m : List Mk) : check l m = 0 ↔ ckGo l m true 0 0 (List.replicate l.length 0) = (false, (l.length : Int), l.map shutOf) := by
  constructor
  · intro h
    unfold check at h
    generalize hq : ckGo l m true 0 0 (List.replicate l.length 0) = q at h
    obtain ⟨b, M, C⟩ := q
    simp only at h
    split at h
    · omega
    · rename_i h2
      simp only [Bool.or_eq_true, decide_eq_true_eq, not_or, Bool.not_eq_true, Decidable.not_not] at h2
      obtain ⟨⟨rfl, h3⟩, rfl⟩ := h2
      have := ckGo_len l m true 0 0 _ _ C hq (by omega) (by omega) (by simp)
      rw [mism_false this.2.1 h3]
  · intro h
    unfold check
    rw [h]
    have : mism l (l.map shutOf) = false := by
      simp only [mism, List.any_eq_false, List.mem_range]
      intro i hi
      have e : l.getD i zS = l[i] := by rw [List.getD_eq_getElem?_getD, List.getElem?_eq_getElem hi]; rfl
      have e2 : (l.map shutOf).getD i 0 = shutOf l[i] := by rw [List.getD_eq_getElem?_getD, List.getElem?_map, List.getElem?_eq_getElem hi]; rfl
      have e3 : shutOf (l.getD i sockT.zero) = shutOf l[i] := congrArg shutOf e
      rw [e3, e2]; simp
    simp [this]
theorem places_len (p : Sk → Bool) : ∀ (i : Nat) (l : List Sk), (places p i l).length = l.countP p
  | _, [] => rfl
  | i, x :: r => by
    simp only [places, List.countP_cons]
    have := places_len p (i + 1) r
    split <;> simp_all
theorem check_open {l : List Sk} {m : List Mk} {now : Int} (h : check l m = 0) (hl : m = [] ∨ lastAt m ≤ now) (a : Ad) (b : Int) : check (addS l a b now) (addM m false (lenS l) now) = 0 := by
  rw [check_iff] at h ⊢
  have h2 := ckGo_more l (newSk a b now) m true 0 0 _ _ _ h (by simp) (by omega) (by omega)
  rw [show addS l a b now = l ++ [newSk a b now] from rfl, show addM m false (lenS l) now = m ++ [mkM false l.length now] from rfl]
  have e : List.replicate (l ++ [newSk a b now]).length (0 : Int) = List.replicate l.length 0 ++ [0] := by
    rw [List.length_append, ← List.replicate_append_replicate]; rfl
  rw [e, ckGo_snoc _ _ _ _ _ _ _ _ _ h2, ckGo]
  have c1 : ¬((!(true && m.isEmpty) && decide ((mkM false (l.length : Int) now).2.2.1 < if m.isEmpty then 0 else lastAt m)) = true) := by
    rcases hl with rfl | hl
    · simp
    · cases m with
      | nil => simp
      | cons x r => simp [mkM]; omega
  rw [if_neg c1, if_neg (by simp [mkM])]
  have c2 : openedOf ((l ++ [newSk a b now]).getD (l.length : Int).toNat sockT.zero) = now := by
    rw [getS _ _ (by simp)]; simp [newSk]
  have c3 : ¬((decide ((mkM false (l.length : Int) now).2.1 ≠ l.length) || decide ((l.length : Int) ≥ (l ++ [newSk a b now]).length) || decide (openedOf ((l ++ [newSk a b now]).getD (l.length : Int).toNat sockT.zero) ≠ (mkM false (l.length : Int) now).2.2.1)) = true) := by
    rw [c2]; simp [mkM]; omega
  rw [if_neg c3, ckGo]
  simp [newSk, shutOf]
theorem check_shut {l : List Sk} {m : List Mk} {now n : Int} (h : check l m = 0) (hl : m = [] ∨ lastAt m ≤ now) (hn : inR n l = true) (hs : IntKind.wrap .i64 (shutOf (l.getD n.toNat zS) + 1) = shutOf (l.getD n.toNat zS) + 1) : check (shutL l n) (addM m true n now) = 0 := by
  rw [check_iff] at h ⊢
  simp only [inR, Bool.and_eq_true, decide_eq_true_eq] at hn
  have hi : n.toNat < l.length := by omega
  have L : (shutL l n).length = l.length := by simp [shutL]
  have O : ∀ i, openedOf ((shutL l n).getD i zS) = openedOf (l.getD i zS) := by
    intro i
    unfold shutL
    simp only [List.getD_eq_getElem?_getD, List.getElem?_set]
    split
    · rename_i e
      subst e
      have e := getS l _ hi
      have e' : l[n.toNat]? = some l[n.toNat] := List.getElem?_eq_getElem hi
      rw [e']
      first
        | rw [if_pos hi]; exact congrArg (fun s => openedOf (shut1 s)) e
        | exact congrArg (fun s => openedOf (shut1 s)) e
    · rfl
  have h2 : ckGo (shutL l n) m true 0 0 (List.replicate l.length 0) = (false, (l.length : Int), l.map shutOf) := by rw [ckGo_same l _ L O]; exact h
  rw [L, show addM m true n now = m ++ [mkM true n now] from rfl, ckGo_snoc _ _ _ _ _ _ _ _ _ h2, ckGo]
  have c1 : ¬((!(true && m.isEmpty) && decide ((mkM true n now).2.2.1 < if m.isEmpty then 0 else lastAt m)) = true) := by
    rcases hl with rfl | hl
    · simp
    · cases m with
      | nil => simp
      | cons x r => simp [mkM]; omega
  have c2 : ¬((decide ((mkM true n now).2.1 < 0) || decide ((mkM true n now).2.1 ≥ (l.length : Int))) = true) := by
    show ¬((decide (n < 0) || decide (n ≥ (l.length : Int))) = true)
    simp only [Bool.or_eq_true, decide_eq_true_eq]
    omega
  rw [if_neg c1, if_pos (by rfl), if_neg c2, ckGo]
  congr 2
  unfold shutL
  rw [List.map_set]
  have e : l.getD n.toNat zS = l[n.toNat] := by rw [List.getD_eq_getElem?_getD, List.getElem?_eq_getElem hi]; rfl
  have e2 : (l.map shutOf).getD n.toNat 0 = shutOf (l.getD n.toNat zS) := by rw [e, List.getD_eq_getElem?_getD, List.getElem?_map, List.getElem?_eq_getElem hi]; rfl
  show (l.map shutOf).set n.toNat ((l.map shutOf).getD n.toNat 0 + 1) = _
  rw [e2, ← hs]
  rfl
theorem check_dead {l : List Sk} {m : List Mk} {n : Int} (h : check l m = 0) : check (deadL l n) m = 0 := by
  rw [check_iff] at h ⊢
  have L : (deadL l n).length = l.length := by simp [deadL]
  have G : ∀ i (f : Sk → Int), (∀ s, f (dead1 s) = f s) → f ((deadL l n).getD i zS) = f (l.getD i zS) := by
    intro i f hf
    unfold deadL
    simp only [List.getD_eq_getElem?_getD, List.getElem?_set]
    split
    · rename_i e
      subst e
      split
      · exact hf _
      · rename_i h
        simp [List.getElem?_eq_none (Nat.le_of_not_lt h)]
    · rfl
  rw [ckGo_same l _ L (fun i => G i openedOf fun s => rfl), L, h]
  congr 2
  apply List.ext_getElem
  · simp [L]
  · intro i h1 h2
    simp only [List.length_map] at h1 h2
    have := G i shutOf (fun s => rfl)
    have e1 : (deadL l n).getD i zS = (deadL l n)[i] := by rw [List.getD_eq_getElem?_getD, List.getElem?_eq_getElem h2]; rfl
    have e2 : l.getD i zS = l[i] := by rw [List.getD_eq_getElem?_getD, List.getElem?_eq_getElem h1]; rfl
    rw [e1, e2] at this
    simp [this]
end Go.Proofs.Ytfkfjbppncbkjaa.Sk
set_option linter.all false
namespace Go.Proofs.Ytfkfjbppncbkjaa.Sk
open Go Go.Eng
theorem PlC.later {b : Int} {l : List Sk} {m : List Mk} {now : Int} {sh : List Bool} {many gone : Int} (h : PlC b l m now sh many gone) {d : Int} (hd : 0 ≤ d ∧ d ≤ 1000) (hb : b < 100) : PlC (b + 1) l m (now + d) sh many gone where
  b0 := by have := h.b0; omega
  b1 := by omega
  now0 := by have := h.now0; omega
  now1 := by have := h.now1; omega
  sh := h.sh
  ll := h.ll
  m1 := by have := h.m1; omega
  ml := by have := h.ml; omega
  ck := h.ck
  last := by rcases h.last with h' | h'; exact .inl h'; exact .inr (by omega)
  sv := fun k hk => ⟨by have := (h.sv k hk).1; omega, (h.sv k hk).2⟩
  gn := h.gn
  g0 := h.g0
  g1 := h.g1
theorem PlC.open {b : Int} {l : List Sk} {m : List Mk} {now : Int} {sh : List Bool} {many gone : Int} (h : PlC b l m now sh many gone) {d : Int} (hd : 0 ≤ d ∧ d ≤ 1000) (hb : b < 100) (hsf : ∀ k : Nat, l.length ≤ k → sh.getD k false = false) (a : Ad) (by' : Int) :
    PlC (b + 1) (addS l a by' (now + d)) (addM m false (lenS l) (now + d)) (now + d) sh (many + 1) gone := by
  have hl := h.later hd hb
  have L : (addS l a by' (now + d)).length = l.length + 1 := by simp [addS]
  have e := h.ll
  refine ⟨hl.b0, hl.b1, hl.now0, hl.now1, hl.sh, by rw [L]; omega, by have := h.m1; omega, by simp [addM]; have := h.ml; omega, check_open h.ck hl.last a by', .inr (by rw [lastAt_snoc]; omega), fun k hk => ?_, ?_, h.g0, by have := h.g1; omega⟩
  · rw [L] at hk
    by_cases hk' : k < l.length
    · have e : (addS l a by' (now + d)).getD k zS = l.getD k zS := by simp only [addS, List.getD_eq_getElem?_getD, List.getElem?_append_left hk']
      rw [e]
      exact hl.sv k hk'
    · obtain rfl : k = l.length := by omega
      have e : (addS l a by' (now + d)).getD l.length zS = newSk a by' (now + d) := by simp [addS, List.getD_eq_getElem?_getD]
      rw [e, hsf _ (Nat.le_refl _)]
      have := hl.b0
      simp [newSk, shutOf]; omega
  · have : (addS l a by' (now + d)).countP isOpen = l.countP isOpen + 1 := by simp [addS, newSk, isOpen, shutOf]
    rw [this]
    have := h.gn
    omega
theorem getZ (l : List Sk) (i : Nat) (hi : i < l.length) : l.getD i zS = l[i] := getS l i hi
theorem PlC.dead {b : Int} {l : List Sk} {m : List Mk} {now : Int} {sh : List Bool} {many gone : Int} (h : PlC b l m now sh many gone) {d : Int} (hd : 0 ≤ d ∧ d ≤ 1000) (hb : b < 100) (n : Int) (hn : inR n l = true) : PlC (b + 1) (deadL l n) m (now + d) sh many gone := by
  have hl := h.later hd hb
  have L : (deadL l n).length = l.length := by simp [deadL]
  simp only [inR, Bool.and_eq_true, decide_eq_true_eq] at hn
  have hi : n.toNat < l.length := by omega
  refine ⟨hl.b0, hl.b1, hl.now0, hl.now1, hl.sh, by rw [L]; exact h.ll, hl.m1, hl.ml, check_dead h.ck, hl.last, fun k hk => ?_, ?_, h.g0, h.g1⟩
  · rw [L] at hk
    have e : shutOf ((deadL l n).getD k zS) = shutOf (l.getD k zS) := by
      rw [getZ _ _ (by omega), getZ _ _ hk]
      simp only [deadL, List.getElem_set]
      split
      · rename_i e; subst e
        rw [getS _ _ hi]; rfl
      · rfl
    rw [e]
    exact hl.sv k hk
  · have : (deadL l n).countP isOpen = l.countP isOpen := by
      have e1 : isOpen (dead1 (l.getD n.toNat sockT.zero)) = isOpen l[n.toNat] := by rw [getS _ _ hi]; rfl
      unfold deadL
      rw [List.countP_set hi, e1]
      split
      · rename_i e
        have := List.countP_pos_iff.2 ⟨_, List.getElem_mem hi, e⟩
        omega
      · omega
    rw [this]
    exact h.gn
theorem PlC.shut {b : Int} {l : List Sk} {m : List Mk} {now : Int} {sh : List Bool} {many gone : Int} (h : PlC b l m now sh many gone) {d : Int} (hd : 0 ≤ d ∧ d ≤ 1000) (hb : b < 100) (n : Int) (hn : inR n l = true) :
    PlC (b + 1) (shutL l n) (addM m true n (now + d)) (now + d) (sh.set n.toNat true) many (if sh.getD n.toNat false then gone else gone + 1) := by
  have hl := h.later hd hb
  have L : (shutL l n).length = l.length := by simp [shutL]
  have hn' := hn
  simp only [inR, Bool.and_eq_true, decide_eq_true_eq] at hn
  have hi : n.toNat < l.length := by omega
  have hv := h.sv _ hi
  have e := getZ l _ hi
  have hw : IntKind.wrap .i64 (shutOf (l.getD n.toNat zS) + 1) = shutOf (l.getD n.toNat zS) + 1 := wrap_id (by omega) (by omega)
  have e1 : shutOf (shut1 (l.getD n.toNat sockT.zero)) = shutOf l[n.toNat] + 1 := by rw [getS _ _ hi, ← e]; exact hw
  rw [e] at hv hw
  have hll := h.ll
  have hm1 := h.m1
  have hcnt : ((shutL l n).countP isOpen : Int) = l.countP isOpen - if sh.getD n.toNat false then 0 else 1 := by
    have ho : isOpen (shut1 (l.getD n.toNat sockT.zero)) = false := by
      simp only [isOpen, e1]; simp; omega
    unfold shutL
    rw [List.countP_set hi, ho, hv.2]
    by_cases hz : shutOf l[n.toNat] = 0
    · have h1 : isOpen l[n.toNat] = true := by simp [isOpen, hz]
      have := List.countP_pos_iff.2 ⟨_, List.getElem_mem hi, h1⟩
      simp [h1, hz]; omega
    · have h1 : isOpen l[n.toNat] = false := by simp [isOpen, hz]
      simp [h1, hz]
  have hgn := h.gn
  have hg0 := h.g0
  refine ⟨hl.b0, hl.b1, hl.now0, hl.now1, by simp [h.sh], by rw [L]; exact h.ll, hl.m1, by simp [addM]; have := h.ml; omega, check_shut h.ck hl.last hn' (by rw [e]; exact hw), .inr (by rw [lastAt_snoc]; omega), fun k hk => ?_, ?_, ?_, ?_⟩
  · rw [L] at hk
    rw [getZ _ _ (by omega)]
    have hv' := hl.sv k hk
    rw [getZ _ _ hk] at hv'
    have hs : k < sh.length := by rw [h.sh]; omega
    have hs' : n.toNat < sh.length := by rw [h.sh]; omega
    simp only [shutL, List.getElem_set, List.getD_eq_getElem?_getD, List.getElem?_set]
    by_cases hk' : n.toNat = k
    · rw [if_pos hk', if_pos hk', if_pos hs', e1]
      refine ⟨by omega, ?_⟩
      simp; omega
    · rw [if_neg hk', if_neg hk']
      simpa [List.getD_eq_getElem?_getD] using hv'
  · rw [hcnt]
    split <;> omega
  · split <;> omega
  · have := hcnt
    split at this
    · rw [if_pos (by assumption)]; exact h.g1
    · rw [if_neg (by assumption)]; omega
end Go.Proofs.Ytfkfjbppncbkjaa.Sk
set_option linter.all false
namespace Go.Proofs.Ytfkfjbppncbkjaa.Sk
open Go Go.Eng
set_option maxRecDepth 100000
set_option maxHeartbeats 1000000
theorem place (n : Int) (m : Nat) (h0 : m ≠ 0) (h1 : m ≤ 600) : 0 ≤ Int.tmod (IntKind.wrap IntKind.i64 (Int.tmod n m + m)) m ∧ Int.tmod (IntKind.wrap IntKind.i64 (Int.tmod n m + m)) m < m := by
  have a := Int.tmod_lt_of_pos n (show (0 : Int) < m by omega)
  have b : -(m : Int) < Int.tmod n m := Int.lt_tmod_of_pos n (by omega)
  rw [wrap_id (by omega) (by omega)]
  exact ⟨Int.tmod_nonneg _ (by omega), Int.tmod_lt_of_pos _ (by omega)⟩
theorem v8 : Vc g8 300 Try.f8 cSockCheck := by
  constructor
  rw [v8_eq]
  simp only [Wr_iff, bcase_iff, true_and, and_true, decide_eq_true_eq, decide_eq_false_iff_not, Bool.and_eq_true, Bool.and_eq_false_iff, Bool.or_eq_true, Bool.or_eq_false_iff, Bool.not_eq_true', Bool.not_eq_false', Option.map_some, Option.getD_some, Option.isSome_some, Option.isSome_map, imp_self, nilL, noneO]
  intro x
  generalize x.fst = l
  generalize x.snd.fst = m
  generalize x.snd.snd.fst = n
  intro _
  refine ⟨fun h => by simp [okL]; omega, fun _ => trivial, fun h => ?_⟩
  obtain ⟨⟨h1, h2⟩, h3⟩ := h
  have hm : m.length ≠ 0 := by omega
  have hp := place n m.length hm (by omega)
  generalize Int.tmod (IntKind.wrap IntKind.i64 (Int.tmod n m.length + m.length)) m.length = k at hp ⊢
  obtain ⟨k0, k1⟩ := hp
  rw [wrap_id (by omega) (by omega)]
  have e0 : Int.toNat 0 = 0 := rfl
  have e1 : (m.length : Int).toNat = m.length := by omega
  simp only [e0, e1, List.take_length, List.drop_zero, List.nil_append]
  have L1 : (List.take k.toNat m ++ List.drop (k + 1).toNat m).length = m.length - 1 := by simp; omega
  have L2 : (List.take k.toNat m ++ [m.getD k.toNat markT.zero] ++ List.drop k.toNat m).length = m.length + 1 := by simp; omega
  have c1 := check_less h2 (m' := List.take k.toNat m ++ List.drop (k + 1).toNat m) (by omega)
  have c2 := check_less h2 (m' := List.take k.toNat m ++ [m.getD k.toNat markT.zero] ++ List.drop k.toNat m) (by omega)
  generalize List.take k.toNat m ++ List.drop (k + 1).toNat m = m1 at *
  have o1 : okL l m1 = true := by simp [okL]; omega
  refine ⟨by omega, by omega, by omega, by omega, by omega, by simp; omega, by omega, by omega, by omega, by simp; omega, by omega, by omega, by omega, by simp; omega, by omega, by omega, by simp; omega, by omega, by omega, by omega, by simp; omega, o1, ?_⟩
  generalize List.take k.toNat m ++ [m.getD k.toNat markT.zero] ++ List.drop k.toNat m = m2 at *
  have o2 : okL l m2 = true := by simp [okL]; omega
  simp [c1, c2, o2]
end Go.Proofs.Ytfkfjbppncbkjaa.Sk
set_option linter.all false
namespace Go.Proofs.Ytfkfjbppncbkjaa.Sk
open Go Go.Eng
set_option maxRecDepth 100000
set_option maxHeartbeats 4000000
abbrev Acts := List (Int × Int × Bool × Unit)
theorem pl_fin {acts : Acts} {i : Int} (hi : i < acts.length) (h0 : 0 ≤ i) (ha : acts.length ≤ 100) {L : List Sk} {M : List Mk} {now : Int} {sh : List Bool} {many gone : Int} (c : PlC (i + 1) L M now sh many gone) (sf : ∀ k : Nat, L.length ≤ k → sh.getD k false = false) :
    okL L M = true ∧ (check L M = 0 → okN L = true) ∧ ((¬check L M = 0 ∨ ¬((places isOpen 0 L).length : Int) = many - gone) ∨ ¬(L.length : Int) = many → (false, ()) = (true, ())) ∧
    ((check L M = 0 ∧ ((places isOpen 0 L).length : Int) = many - gone) ∧ (L.length : Int) = many → PlInv acts ⟨i + 1, L, M, now, sh, many, gone⟩ ∧ acts.length - (i + 1).toNat < acts.length - i.toNat) := by
  have h1 := c.m1
  have h2 := c.ml
  have h3 := c.ll
  have h4 := c.b1
  refine ⟨by simp [okL]; omega, fun _ => by simp [okN]; omega, fun h => ?_, fun _ => ⟨⟨by simp only; omega, ha, c, sf⟩, by omega⟩⟩
  rw [places_len] at h
  have h5 := c.gn
  have h6 := c.ck
  omega
theorem v11 : Vc g11 300 Try.f11 cPlays := by
  constructor
  rw [v11_eq]
  simp only [Wr_iff, bcase_iff, true_and, and_true, decide_eq_true_eq, decide_eq_false_iff_not, Bool.and_eq_true, Bool.and_eq_false_iff, Bool.or_eq_true, Bool.or_eq_false_iff, Bool.not_eq_true', Bool.not_eq_false', Option.map_some, Option.getD_some, Option.isSome_some, Option.isSome_map, imp_self, nilL, noneO]
  intro x
  generalize x.fst = l
  intro _
  refine ⟨fun _ => trivial, fun h => ⟨by omega, by omega, by omega, by omega, ?_, ?_⟩⟩
  · have e : (100 : Int).toNat = 100 := rfl
    refine ⟨by simp only; omega, by omega, ⟨by simp only; omega, by simp only; omega, by simp only; omega, by simp only; omega, by simp [e], by simp, by simp only; omega, by simp, by decide, .inl rfl, fun k hk => by simp at hk, by simp, by simp only; omega, by simp only; omega⟩, fun k _ => ?_⟩
    simp only [e, List.getD_eq_getElem?_getD, List.getElem?_replicate]
    split <;> rfl
  · intro x hx
    refine ⟨fun hi => ⟨hx.c.b0, hi, ?_⟩, fun hi => trivial⟩
    generalize List.getD l x.i.toNat actT.zero = A
    obtain ⟨n, d, dr, ⟨⟩⟩ := A
    dsimp only
    obtain ⟨i, L, M, now, sh, many, gone⟩ := x
    obtain ⟨i1, a100, c, sf⟩ := hx
    simp only at i1 c sf hi ⊢
    have b0 := c.b0
    have now0 := c.now0
    have now1 := c.now1
    have shl := c.sh
    have ll := c.ll
    have m1 := c.m1
    have ml := c.ml
    have g0 := c.g0
    have g1 := c.g1
    have gn := c.gn
    refine ⟨fun _ => trivial, fun hd => ?_⟩
    have hd' : 0 ≤ d ∧ d ≤ 1000 := by omega
    have w1 : IntKind.wrap .i64 (now + d) = now + d := wrap_id (by omega) (by omega)
    have w2 : IntKind.wrap .i64 (i + 1) = i + 1 := wrap_id (by omega) (by omega)
    have w3 : IntKind.wrap .i64 (many + 1) = many + 1 := wrap_id (by omega) (by omega)
    have w4 : IntKind.wrap .i64 (many + 1 - gone) = many + 1 - gone := wrap_id (by omega) (by omega)
    have w5 : IntKind.wrap .i64 (many - gone) = many - gone := wrap_id (by omega) (by omega)
    have w6 : IntKind.wrap .i64 (gone + 1) = gone + 1 := wrap_id (by omega) (by omega)
    have w7 : IntKind.wrap .i64 (many - (gone + 1)) = many - (gone + 1) := wrap_id (by omega) (by omega)
    simp only [w1, w2, w3, w4, w5, w6, w7]
    have hb : i < 100 := by omega
    have ok : okL L M = true := by simp [okL]; omega
    have okn : okN L = true := by simp [okN]; omega
    refine ⟨fun hn => ⟨ok, fun h => by simp [lenS] at h; omega, fun _ => ?_⟩, fun hn => ⟨fun _ => ⟨okn, fun _ => by omega, fun _ => by omega, fun h => ?_, fun _ => ⟨fun h => ?_, fun h => ?_⟩⟩, fun _ => ⟨ok, fun h => ?_, fun _ => ⟨fun h => ?_, fun h => ?_⟩⟩⟩⟩
    · exact pl_fin hi b0 a100 (c.open hd' hb sf _ _) fun k hk => sf k (by simp [addS] at hk; omega)
    · exfalso
      have hin : inR n L = decide (n < many) := by simp [inR, ← ll]; intro; omega
      simp only [drE, opens, hin] at h
      by_cases hlt : n < many
      · have hi' : n.toNat < L.length := by omega
        have hv := (c.sv _ hi').2
        have e : min n 99 = n := by omega
        rw [e, hv] at h
        have e3 : isOpen (L.getD n.toNat sockT.zero) = decide (shutOf (L.getD n.toNat zS) = 0) := rfl
        rw [e3] at h
        by_cases hz : shutOf (L.getD n.toNat zS) = 0 <;> simp [hlt, hz] at h
      · simp [hlt] at h
    · have ho : opens L n = true := by
        unfold drE at h; split at h
        · assumption
        · omega
      have hr : inR n L = true := by simp only [opens, Bool.and_eq_true] at ho; exact ho.1
      have e : drA L n = deadL L n := by unfold drA; rw [if_pos ho]
      rw [e]
      exact pl_fin hi b0 a100 (c.dead hd' hb n hr) fun k hk => sf k (by simpa [deadL] using hk)
    · exact pl_fin hi b0 a100 (c.later hd' hb) sf
    · exfalso
      have hin : inR n L = decide (n < many) := by simp [inR, ← ll]; intro; omega
      simp only [shE, hin] at h
      by_cases hlt : n < many <;> simp [hlt] at h
    · have hr : inR n L = true := by
        unfold shE at h; split at h
        · assumption
        · omega
      have e1 : shA L n = shutL L n := by unfold shA; rw [if_pos hr]
      have e2 : shB L M n (now + d) = addM M true n (now + d) := by unfold shB; rw [if_pos hr]
      rw [e1, e2]
      have hr' := hr
      simp only [inR, Bool.and_eq_true, decide_eq_true_eq] at hr'
      have hf : ∀ k : Nat, (shutL L n).length ≤ k → (sh.set n.toNat true).getD k false = false := by
        intro k hk
        have hk' : L.length ≤ k := by simpa [shutL] using hk
        rw [List.getD_eq_getElem?_getD, List.getElem?_set, if_neg (by omega), ← List.getD_eq_getElem?_getD]
        exact sf k hk'
      have cc := c.shut hd' hb n hr
      refine ⟨by omega, by omega, fun h => ?_, fun h => ?_⟩
      · rw [h] at cc
        exact ⟨by omega, by omega, pl_fin hi b0 a100 cc hf⟩
      · rw [h] at cc
        exact ⟨by omega, by omega, pl_fin hi b0 a100 cc hf⟩
    · exact pl_fin hi b0 a100 (c.later hd' hb) sf
end Go.Proofs.Ytfkfjbppncbkjaa.Sk
set_option linter.all false
namespace Go.Proofs.Ytfkfjbppncbkjaa.Sk
open Go.RowKit Go.Shelf Go.Eng
attribute [local go_sem] Oper.semAt_some
abbrev W0 := Fence.wide
theorem wide_fn (f : FuncId) : W0.fn f := by trivial
theorem wide_ro : W0.round = none := rfl


set_option maxHeartbeats 2000000 in
theorem all_in (n : Nat) (a : Option Addr) (len cap : Nat) (g : Nat) (w : World) :
    CallsIn W0 n Try.prog 64 #[.slice a len cap, .func (.func g) #[] #[]] w fun e w' => e = .returned (.func (.func 71) #[] #[.pointer (some ⟨w.heap.size, 0, none⟩), .pointer (some ⟨w.heap.size + 1, 0, none⟩)]) ∧ w' = (w.alloc (.cells #[.slice a len cap] 40)).alloc (.cells #[.func (.func g) #[] #[]] 108) := by
  refine callsIn_of_wp Try.func64 rfl (wide_fn _) ?_ wide_ro
  simp only [Try.ntmps64, List.size_toArray, List.length_cons, List.length_nil, Nat.reduceAdd, Nat.reduceSub, Array.replicate_succ, Array.replicate_zero, List.push_toArray, List.append_toArray, List.nil_append, List.cons_append]
  gi_wp2
  go_ret
  exact ⟨rfl, rfl⟩

/-- a contract of a test on sockets -/
abbrev cIs (p : Sk → Bool) : Contract := cTest p

/-- the numbers told when k sockets are over -/
def upto (p : Sk → Bool) (l : List Sk) (k : Nat) : List Int := places p 0 (l.take k)
theorem places_append (p : Sk → Bool) : ∀ (i : Nat) (a b : List Sk), places p i (a ++ b) = places p i a ++ places p (i + a.length) b
  | i, [], b => rfl
  | i, x :: a, b => by
    simp only [List.cons_append, places, places_append p (i + 1) a b, List.length_cons, Nat.add_assoc, Nat.add_comm 1]
    split <;> rfl
theorem upto_succ {p : Sk → Bool} {l : List Sk} {k : Nat} {x : Sk} (h : l[k]? = some x) : upto p l (k + 1) = if p x then upto p l k ++ [(k : Int)] else upto p l k := by
  have hk : k < l.length := (List.getElem?_eq_some_iff.1 h).1
  unfold upto
  rw [List.take_add_one, h, places_append]
  simp only [Option.toList, places, Nat.zero_add, List.length_take, Nat.min_eq_left (Nat.le_of_lt hk)]
  split <;> simp
theorem upto_le (p : Sk → Bool) (l : List Sk) (k : Nat) : (upto p l k).length ≤ k := by
  have : ∀ (i : Nat) (a : List Sk), (places p i a).length ≤ a.length := by
    intro i a
    induction a generalizing i with
    | nil => simp [places]
    | cons x r ih =>
      simp only [places]
      have := ih (i + 1)
      split <;> simp <;> omega
  exact Nat.le_trans (this 0 _) (by simp; omega)

/-- the fourteen cells of a socket -/
theorem sock_cells {S : Nat → Prop} {w : World} {x : Sk} {es : List Value} (h : RdC Try.prog sockT S w x es) :
    ∃ a0 a1 a2 a3 a4 a5 a6 a7 a8 p b o s d, es = [.int .i8 a0, .int .u16 a1, .int .u16 a2, .int .u16 a3, .int .u16 a4, .int .u16 a5, .int .u16 a6, .int .u16 a7, .int .u16 a8, .int .i64 p, .int .i64 b, .int .i64 o, .int .i64 s, .bool d] := by
  simp only [sockT, addrT, Ty.arr, RdC] at h
  obtain ⟨c1, c2, rfl, ⟨_, _, rfl, ⟨rfl, _⟩, _, _, rfl, ⟨_, _, rfl, ⟨rfl, _⟩, _, _, rfl, ⟨rfl, _⟩, _, _, rfl, ⟨rfl, _⟩, _, _, rfl, ⟨rfl, _⟩, _, _, rfl, ⟨rfl, _⟩, _, _, rfl, ⟨rfl, _⟩, _, _, rfl, ⟨rfl, _⟩, _, _, rfl, ⟨rfl, _⟩, rfl⟩, _, _, rfl, ⟨rfl, _⟩, rfl⟩, _, _, rfl, ⟨rfl, _⟩, _, _, rfl, ⟨rfl, _⟩, _, _, rfl, ⟨rfl, _⟩, _, _, rfl, rfl, rfl⟩ := h
  exact ⟨_, _, _, _, _, _, _, _, _, _, _, _, _, _, rfl⟩

/-- what a round of a caller keeps -/
structure Kp (n₀ bf : Nat) (f : Value) (A B : World) : Prop where
  below : Below n₀ A B
  box : Boxed A bf 108 f → Boxed B bf 108 f
theorem Kp.refl (n₀ bf : Nat) (f : Value) (A : World) : Kp n₀ bf f A A := ⟨Below.refl _ _, id⟩
theorem Kp.trans {n₀ bf : Nat} {f : Value} {A B C : World} (h : Kp n₀ bf f A B) (k : Kp n₀ bf f B C) : Kp n₀ bf f A C := ⟨h.below.trans k.below, fun x => k.box (h.box x)⟩
theorem grown_of_below {w w' : World} (h : Below w.heap.size w w') : w.grownBy w' none := ⟨h.os, h.tape, h.output, h.size, fun k hk _ => h.block k hk⟩

set_option maxRecDepth 100000 in
set_option maxHeartbeats 2000000 in
theorem all1_in (n : Nat) (hn : 1 ≤ n) (g : Nat) (p : Sk → Bool) (hg : Valid Try.prog g (cIs p)) (hen : ∀ args w, (callFunc g args).run Try.prog w = .ok (.enter g args) w) (y Bs bf n₀ : Nat) (base : Option Addr) (cap : Nat) (l : List Sk) (S : Nat → Prop) (hS : ∀ b, S b → b < n₀)
    (J Jx : List Int → World → Prop) (hreach : l.length * 112 ≤ 140737488351232)
    (W : World) (hbf : bf < W.heap.size) (hn₀ : n₀ ≤ W.heap.size) (hJa : AbidesFrom W.heap.size J)
    (hY : ∀ pre x W, J pre W → pre.length < l.length → YieldAt W0 (n - 1) Try.prog y #[.int .i64 x] W fun e W' =>
      (e = .returned (.bool true) ∧ J (pre ++ [x]) W' ∧ Kp n₀ bf (.func (.func g) #[] #[]) W W') ∨ (e = .returned (.bool false) ∧ Jx (pre ++ [x]) W'))
    (hBs : W.cell? ⟨Bs, 0, none⟩ = some (.slice base l.length cap)) (hBf : Boxed W bf 108 (.func (.func g) #[] #[]))
    (hl : RdC Try.prog (.sl sockT) S W l [.slice base l.length cap]) (h0 : J [] W) :
    CallsIn W0 n Try.prog 71 #[.func (.yield y) #[] #[], .pointer (some ⟨Bs, 0, none⟩), .pointer (some ⟨bf, 0, none⟩)] W fun e W' => (∃ v, e = .returned v) ∧
      ((∃ ys, ys = places p 0 l ∧ J ys W') ∨ (∃ pre, pre.length ≤ l.length ∧ Jx pre W')) := by
  refine callsIn_of_wp Try.func71 rfl (wide_fn _) ?_ wide_ro
  simp only [Try.ntmps71, List.size_toArray, List.length_cons, List.length_nil, Nat.reduceAdd, Nat.reduceSub, Array.replicate_succ, Array.replicate_zero, List.push_toArray, List.append_toArray, List.nil_append, List.cons_append]
  have hle : l.length ≤ maxLen := by
    obtain ⟨b', c', e', h1, h2, _⟩ := hl
    exact Nat.le_trans h1 h2
  gi_wp2
  gi_loopw [8] (fun i wr => ∃ k : Nat, k ≤ l.length ∧ i = .int .i64 k ∧ J (upto p l k) wr ∧ Kp n₀ bf (.func (.func g) #[] #[]) W wr ∧ W.heap.size ≤ wr.heap.size)
    (fun i _ => l.length - (intOf i).toNat)
  case atStart => exact ⟨0, Nat.zero_le _, rfl, h0, Kp.refl _ _ _ _, Nat.le_refl _⟩
  case round =>
    obtain ⟨k, hk, rfl, hJs, hnx, hsz⟩ := hrel
    by_cases hlt : k < l.length
    · have hx : l[k]? = some l[k] := List.getElem?_eq_getElem hlt
      have hB : Boxed wr bf 108 (.func (.func g) #[] #[]) := hnx.box hBf
      have hbc := hB.cell
      have hbw := hB.lt
      have hl' := hl.mono (S' := S) (w' := wr) (fun b hb => ⟨hb, hnx.below.block b (hS b hb)⟩)
      obtain ⟨base', cap', he', _, _, hne⟩ := hl'
      obtain ⟨rfl, rfl⟩ : base = base' ∧ cap = cap' := by
        injection he' with he' _
        injection he' with h1 _ h2
        exact ⟨h1, h2⟩
      obtain ⟨b, off, rfl, hb, hel⟩ := hne (fun h => absurd hlt (by rw [show l = [] from h]; exact Nat.not_lt_zero _))
      obtain ⟨es, hes, hlies⟩ := hel k _ hx
      have hes0 := hes
      obtain ⟨a0, a1, a2, a3, a4, a5, a6, a7, a8, p0, b0, o0, s0, d0, rfl⟩ := sock_cells hes
      have c0 := hlies 0 _ rfl
      have c1 := hlies 1 _ rfl
      have c2 := hlies 2 _ rfl
      have c3 := hlies 3 _ rfl
      have c4 := hlies 4 _ rfl
      have c5 := hlies 5 _ rfl
      have c6 := hlies 6 _ rfl
      have c7 := hlies 7 _ rfl
      have c8 := hlies 8 _ rfl
      have c9 := hlies 9 _ rfl
      have c10 := hlies 10 _ rfl
      have c11 := hlies 11 _ rfl
      have c12 := hlies 12 _ rfl
      have c13 := hlies 13 _ rfl
      simp only [show sockT.size = 14 from rfl, Nat.add_zero] at c0 c1 c2 c3 c4 c5 c6 c7 c8 c9 c10 c11 c12 c13
      have hbn := hS b hb
      have hcall := fun (w' : World) (hw : Below wr.heap.size wr w') => hg.2 w' S (l[k], ()) _ (fun b hb => Nat.lt_of_lt_of_le (hS b hb) (Nat.le_trans (Nat.le_trans hn₀ hsz) hw.size)) ⟨_, _, rfl, hes0.mono (fun b hb => ⟨hb, hw.block b (by have := hS b hb; omega)⟩), rfl⟩ trivial
      clear hlies hel hne hl hes hes0
      have hBl : Below wr.heap.size wr (wr.alloc (.cells #[.int .i8 a0, .int .u16 a1, .int .u16 a2, .int .u16 a3, .int .u16 a4, .int .u16 a5, .int .u16 a6, .int .u16 a7, .int .u16 a8, .int .i64 p0, .int .i64 b0, .int .i64 o0, .int .i64 s0, .bool d0] 83)) := (Below.refl _ _).alloc (Nat.le_refl _) _
      have hfg : W0.fn g := wide_fn g
      gi_wp2
      refine CallsIn.mono (callsIn_wide.2 (hcall _ hBl)) ?_
      rintro e w2 ⟨hb2, rs, he, hrs, _⟩
      obtain ⟨q1, q2, rfl, hq1, hq2⟩ := hrs
      obtain rfl : q1 = [.bool (p l[k])] := hq1
      obtain rfl : q2 = [] := hq2
      obtain rfl : e = .returned (.bool (p l[k])) := he
      have hb3 := hBl.trans (hb2.mono hBl.size)
      have hJ2 : J (upto p l k) w2 := hJa _ wr w2 none hJs (grown_of_below hb3) (by simp)
      have hK2 : Kp n₀ bf (.func (.func g) #[] #[]) W w2 := hnx.trans ⟨hb3.mono (Nat.le_trans hn₀ hsz), fun h => (hb3.block bf hbw).trans h⟩
      have hsz2 : W.heap.size ≤ w2.heap.size := Nat.le_trans hsz hb3.size
      have hup := upto_succ (p := p) hx
      by_cases hp : p l[k] = true
      · rw [if_pos hp] at hup
        rw [hp]
        obtain ⟨fn, tmps, assign, body, hy, hR⟩ := hY _ k w2 hJ2 (Nat.lt_of_le_of_lt (upto_le p l k) hlt)
        gi_wp2
        refine hR.mono ?_
        rintro e W3 (⟨rfl, hJ3, hk3⟩ | ⟨rfl, hJx3⟩)
        · gi_wp2
          go_roundw
          case rel => exact ⟨k + 1, by omega, by simp, by rw [hup]; exact hJ3, hK2.trans hk3, Nat.le_trans hsz2 hk3.below.size⟩
          case measure => simp [intOf]; omega
        · gi_wp2
          refine bodyPost_ret (results_none rfl _ _ _) rfl ?_
          exact ⟨⟨_, rfl⟩, .inr ⟨_, by have := upto_le p l k; simp; omega, hJx3⟩⟩
      · rw [if_neg hp] at hup
        rw [Bool.not_eq_true] at hp
        rw [hp]
        gi_wp2
        refine ⟨fun f h => wide_fn f, ?_⟩
        gi_wp2
        go_roundw
        case rel => exact ⟨k + 1, by omega, by simp, by rw [hup]; exact hJ2, hK2, hsz2⟩
        case measure => simp [intOf]; omega
    · obtain rfl : k = l.length := by omega
      gi_wp2
      go_end0
      exact ⟨⟨_, rfl⟩, .inl ⟨_, by unfold upto; rw [List.take_length], hJs⟩⟩

theorem kp_b {n₀ bf : Nat} {f : Value} {w : World} (hn : n₀ ≤ w.heap.size) (hb : bf < w.heap.size) (W : World) (l : Nat) (o o' : Obj) (hl : w.heap.size ≤ l) (h : W.heap[l]? = some o) (h1 : o.isCells = false) (h2 : o.isWalk = false) : Kp n₀ bf f W (W.putObj l o') :=
  ⟨belowK_b hn W l o o' hl h h1 h2, fun hx => hx.kept (grownBy_putObj' W l o') (by intro e; cases e; omega)⟩

theorem info3 : (Try.prog.info? 3).map (fun i => (i.zero, i.size, i.bytes)) = some (some (.int .i64 0), 1, 8) := by kernel_rfl
theorem und24 : Try.prog.underlying 24 = some (.slice 3) := by kernel_rfl

/-- the iterator's contract -/
theorem all_stops (n : Nat) (hn : 1 ≤ n) (g : Nat) (p : Sk → Bool) (hg : Valid Try.prog g (cIs p)) (hen : ∀ args w, (callFunc g args).run Try.prog w = .ok (.enter g args) w) (Bs bf n₀ : Nat) (base : Option Addr) (cap : Nat) (l : List Sk) (S : Nat → Prop) (hS : ∀ b, S b → b < n₀)
    (hreach : l.length * 112 ≤ 140737488351232) (w : World) (hbs : Bs < w.heap.size) (hbf : bf < w.heap.size) (hn₀ : n₀ ≤ w.heap.size)
    (hc : w.cell? ⟨Bs, 0, none⟩ = some (.slice base l.length cap)) (hBf : Boxed w bf 108 (.func (.func g) #[] #[])) (hl : RdC Try.prog (.sl sockT) S w l [.slice base l.length cap]) :
    SeqStopsK W0 n Try.prog 71 #[.pointer (some ⟨Bs, 0, none⟩), .pointer (some ⟨bf, 0, none⟩)] (fun x : Int => #[Value.int .i64 x]) (Kp n₀ bf (.func (.func g) #[] #[])) (fun ys => ys = places p 0 l) (fun pre => pre.length ≤ l.length) l.length w := fun y J Jx W hW hJa _ hY h0 =>
  all1_in n hn g p hg hen y Bs bf n₀ base cap l S hS J Jx hreach W (Nat.lt_of_lt_of_le hbf hW.size) (Nat.le_trans hn₀ hW.size) hJa hY ((hW.cell (p := ⟨Bs, 0, none⟩) hbs).trans hc) ((hW.block bf hbf).trans hBf)
    (hl.mono fun b hb => ⟨hb, hW.block b (Nat.lt_of_lt_of_le (hS b hb) hn₀)⟩) h0

theorem results_box {fn : Func} {p : Tmp} (h : fn.results = #[.cell p 24]) (tmps : Array Value) (w : World) (g : Nat) (a : Option Addr) (m c : Nat)
    (hp : tmps.getD p undef = .pointer (some ⟨g, 0, none⟩)) (hg : w.cell? ⟨g, 0, none⟩ = some (.slice a m c)) : (results fn tmps).run Try.prog w = .ok (.slice a m c) w := by
  have hp' : tmps[p]?.getD undef = .pointer (some ⟨g, 0, none⟩) := by simpa using hp
  simp [results, h, hp', asAddr]
  go_simp

set_option maxRecDepth 100000 in
set_option maxHeartbeats 2000000 in
theorem live_in (p : Sk → Bool) (hg : Valid Try.prog 65 (cIs p)) (base : Option Addr) (cap : Nat) (l : List Sk) (S : Nat → Prop) (hreach : l.length * 112 ≤ 140737488351232) (w : World) (hS : ∀ b, S b → b < w.heap.size)
    (hl : RdC Try.prog (.sl sockT) S w l [.slice base l.length cap]) :
    CallsIn W0 3 Try.prog 46 #[.slice base l.length cap] w fun e W' => ∃ v, e = .returned v ∧ W'.ownsRow w.heap.size 3 1 v (places p 0 l).length ((places p 0 l).map (Value.int .i64)) ∧ Below w.heap.size w W' := by
  have h1 : 1 ≤ 3 := by omega
  obtain ⟨i0, hi, hz0, hz1, hz2⟩ := info_parts info3
  have hmx : maxLen = 2 ^ 63 - 1 := rfl
  refine callsIn_of_wp_marks Try.func46 rfl (wide_fn _) ?_ wide_ro
  simp only [Try.ntmps46, List.size_toArray, List.length_cons, List.length_nil, Nat.reduceAdd, Nat.reduceSub, Array.replicate_succ, Array.replicate_zero, List.push_toArray, List.append_toArray, List.nil_append, List.cons_append]
  gi_wp2_with (refine ⟨wide_fn _, ?_⟩; gi_at_call 64; refine (all_in _ _ _ _ _ _).mono ?_; rintro e w' ⟨rfl, rfl⟩)
  have bO := Boxed.new w 24 (.slice none 0 0)
  have bS := Boxed.new (w.alloc (.cells #[.slice none 0 0] 24)) 40 (.slice base l.length cap)
  have bF := Boxed.new ((w.alloc (.cells #[.slice none 0 0] 24)).alloc (.cells #[.slice base l.length cap] 40)) 108 (.func (.func 65) #[] #[])
  have bS' := bS.alloc (.cells #[.func (.func 65) #[] #[]] 108)
  simp only [World.size_alloc] at bS bF bS'
  have hB1 : Below w.heap.size w (w.alloc (.cells #[.slice none 0 0] 24)) := (Below.refl _ w).alloc (Nat.le_refl _) _
  have hB2 : Below w.heap.size w ((w.alloc (.cells #[.slice none 0 0] 24)).alloc (.cells #[.slice base l.length cap] 40)) := hB1.alloc (by simp) _
  have hB0 : Below w.heap.size w (((w.alloc (.cells #[.slice none 0 0] 24)).alloc (.cells #[.slice base l.length cap] 40)).alloc (.cells #[.func (.func 65) #[] #[]] 108)) := hB2.alloc (by simp; omega) _
  refine wpIn_rangeFunc_ownG (F := W0) (n := 3) (P := Try.prog) wide_ro h1 (gf := 71) (lb := #[.pointer (some ⟨w.heap.size + 1, 0, none⟩), .pointer (some ⟨w.heap.size + 1 + 1, 0, none⟩)]) rfl (wide_fn _) (enters_of Try.func71 (by kernel_rfl) rfl)
    (all_stops 2 (by omega) 65 p hg (enters_of Try.func65 (by kernel_rfl) rfl) (w.heap.size + 1) (w.heap.size + 1 + 1) w.heap.size base cap l S hS hreach _ (by simp) (by simp) (by simp; omega) bS'.cell bF (hl.mono fun b hb => ⟨hb, hB0.block b (hS b hb)⟩))
    Kp.trans (kp_b (by simp; omega) (by simp)) (Below.refl _ _) (fun _ => rfl)
    (fun pre W => (∃ v, Boxed W w.heap.size 24 v ∧ W.ownsRow w.heap.size 3 1 v pre.length (pre.map (Value.int .i64)) ∧ True) ∧ Below w.heap.size w W)
    (fun _ _ _ => False)
    (OwnFrom.and (Own.from (holdsRow_own w.heap.size w.heap.size 24 3 1 (fun pre : List Int => pre.length) (fun pre => pre.map (Value.int .i64)) (fun _ _ => True)) _) (ownFrom_below (Nat.le_refl _) (by simp; omega)))
    (fun _ _ _ _ _ hs _ _ => hs)
    ⟨⟨_, (bO.alloc _).alloc _, World.ownsRow_nil _ _ _ _, trivial⟩, hB0⟩
    (fun x => { tmps := #[.slice base l.length cap, undef, .pointer (some ⟨w.heap.size, 0, none⟩), .int .i64 x, .slice base l.length cap, .func (.func 71) #[] #[.pointer (some ⟨w.heap.size + 1, 0, none⟩), .pointer (some ⟨w.heap.size + 1 + 1, 0, none⟩)], .int .i64 x, undef, undef, undef, undef, undef], defers := [] }) ?assign ?body ?done ?stop
  case assign =>
    intro y x W K hK
    gi_wp2
    exact hK
  case body =>
    rintro y pre x W ⟨⟨v, hv, hrow, _⟩, hB⟩ hlt
    have hc := hv.cell
    gi_wp2_with (gi_at_builtin; refine wpListIn_append_own _ rfl _ _ 24 rfl w.heap.size 3 i0 (.int .i64 0) 1 8 und24 hi hz0 hz1 hz2 rfl (by decide) _ _ _ rfl (hrow.alloc _) ⟨W.heap.size, 0, none⟩ 1 1 [.int .i64 x] rfl rfl (cell_one_new _ _ _) (by simp [Value.oneCell']) (by omega) (by omega) (by have := hB.size; simp; omega) ?_; intro v' w1 hown' hgrow _; obtain ⟨g', cap', rfl⟩ := ownsRow_succ hown'; obtain ⟨hv1, hv2, hr2, hk2, hb2⟩ := hv.appended (by decide) hrow hB.size (Nat.le_refl _) hown' hgrow; have hc1 := hv1.cell; have hf1 := hv1.frozen)
    refine ⟨hk2.from _, ⟨hb2, fun hx => ((hx.alloc _).kept hgrow (hx.not_row (by decide) hrow)).kept (grownBy_setCell' _ _ _) (by simp; omega)⟩, ⟨_, hv2, ?_, trivial⟩, hB.trans hb2⟩
    simpa using hr2
  case done =>
    rintro D ys W hD rfl ⟨⟨v, hv, hrow, _⟩, hB⟩ hK
    have hc := hv.cell
    have hf := hv.frozen
    have hrow2 := hrow.kept (grownBy_setCell' W w.heap.size v) (.inr (hv.not_row (by decide) hrow).symm)
    have hv2 := hv.set v
    have hone : (∃ a m c, v = .slice a m c) := by
      rcases hrow.2 with ⟨rfl, _⟩ | ⟨g, cap, cur, rfl, _⟩ <;> exact ⟨_, _, _, rfl⟩
    obtain ⟨a', m', c', rfl⟩ := hone
    have hDn : D ≠ w.heap.size := by simp at hD; omega
    have hK2 : (W.setCell ⟨w.heap.size, 0, none⟩ (.slice a' m' c')).heap[D]? = some (.deferred (some [])) := by
      rw [← hK]; exact (grownBy_setCell' W w.heap.size (.slice a' m' c')).block D (Array.getElem?_eq_some_iff.1 hK).1 (by intro e; cases e; exact hDn rfl)
    have hB2 : Below w.heap.size w (W.setCell ⟨w.heap.size, 0, none⟩ (.slice a' m' c')) := hB.setCell (Nat.le_refl _) _
    have hc2 := hv2.cell
    generalize hW2 : W.setCell ⟨w.heap.size, 0, none⟩ (.slice a' m' c') = W2 at *
    gi_wp2
    refine ⟨by simp, .inl ⟨_, _, rfl, run_takeDeferred hK2, ?_⟩⟩
    exact ⟨_, results_box rfl _ _ w.heap.size a' m' c' rfl ((hv2.kept (grownBy_putObj' W2 D _) (by intro e; cases e; exact hDn rfl)).cell), _, rfl, ownsRow_putObj hrow2 _ hK2 rfl, hB2.trans (belowK_b (w := w) (Nat.le_refl _) W2 D _ _ (by simp at hD; omega) hK2 rfl rfl)⟩
  case stop =>
    rintro D c pre W _ _ h _
    exact h.elim

set_option maxRecDepth 100000 in
set_option maxHeartbeats 2000000 in
theorem twice_in (p : Sk → Bool) (hg : Valid Try.prog 66 (cIs p)) (base : Option Addr) (cap : Nat) (l : List Sk) (S : Nat → Prop) (hreach : l.length * 112 ≤ 140737488351232) (w : World) (hS : ∀ b, S b → b < w.heap.size)
    (hl : RdC Try.prog (.sl sockT) S w l [.slice base l.length cap]) :
    CallsIn W0 3 Try.prog 51 #[.slice base l.length cap] w fun e W' => ∃ v, e = .returned v ∧ W'.ownsRow w.heap.size 3 1 v (places p 0 l).length ((places p 0 l).map (Value.int .i64)) ∧ Below w.heap.size w W' := by
  have h1 : 1 ≤ 3 := by omega
  obtain ⟨i0, hi, hz0, hz1, hz2⟩ := info_parts info3
  have hmx : maxLen = 2 ^ 63 - 1 := rfl
  refine callsIn_of_wp_marks Try.func51 rfl (wide_fn _) ?_ wide_ro
  simp only [Try.ntmps51, List.size_toArray, List.length_cons, List.length_nil, Nat.reduceAdd, Nat.reduceSub, Array.replicate_succ, Array.replicate_zero, List.push_toArray, List.append_toArray, List.nil_append, List.cons_append]
  gi_wp2_with (refine ⟨wide_fn _, ?_⟩; gi_at_call 64; refine (all_in _ _ _ _ _ _).mono ?_; rintro e w' ⟨rfl, rfl⟩)
  have bO := Boxed.new w 24 (.slice none 0 0)
  have bS := Boxed.new (w.alloc (.cells #[.slice none 0 0] 24)) 40 (.slice base l.length cap)
  have bF := Boxed.new ((w.alloc (.cells #[.slice none 0 0] 24)).alloc (.cells #[.slice base l.length cap] 40)) 108 (.func (.func 66) #[] #[])
  have bS' := bS.alloc (.cells #[.func (.func 66) #[] #[]] 108)
  simp only [World.size_alloc] at bS bF bS'
  have hB1 : Below w.heap.size w (w.alloc (.cells #[.slice none 0 0] 24)) := (Below.refl _ w).alloc (Nat.le_refl _) _
  have hB2 : Below w.heap.size w ((w.alloc (.cells #[.slice none 0 0] 24)).alloc (.cells #[.slice base l.length cap] 40)) := hB1.alloc (by simp) _
  have hB0 : Below w.heap.size w (((w.alloc (.cells #[.slice none 0 0] 24)).alloc (.cells #[.slice base l.length cap] 40)).alloc (.cells #[.func (.func 66) #[] #[]] 108)) := hB2.alloc (by simp; omega) _
  refine wpIn_rangeFunc_ownG (F := W0) (n := 3) (P := Try.prog) wide_ro h1 (gf := 71) (lb := #[.pointer (some ⟨w.heap.size + 1, 0, none⟩), .pointer (some ⟨w.heap.size + 1 + 1, 0, none⟩)]) rfl (wide_fn _) (enters_of Try.func71 (by kernel_rfl) rfl)
    (all_stops 2 (by omega) 66 p hg (enters_of Try.func66 (by kernel_rfl) rfl) (w.heap.size + 1) (w.heap.size + 1 + 1) w.heap.size base cap l S hS hreach _ (by simp) (by simp) (by simp; omega) bS'.cell bF (hl.mono fun b hb => ⟨hb, hB0.block b (hS b hb)⟩))
    Kp.trans (kp_b (by simp; omega) (by simp)) (Below.refl _ _) (fun _ => rfl)
    (fun pre W => (∃ v, Boxed W w.heap.size 24 v ∧ W.ownsRow w.heap.size 3 1 v pre.length (pre.map (Value.int .i64)) ∧ True) ∧ Below w.heap.size w W)
    (fun _ _ _ => False)
    (OwnFrom.and (Own.from (holdsRow_own w.heap.size w.heap.size 24 3 1 (fun pre : List Int => pre.length) (fun pre => pre.map (Value.int .i64)) (fun _ _ => True)) _) (ownFrom_below (Nat.le_refl _) (by simp; omega)))
    (fun _ _ _ _ _ hs _ _ => hs)
    ⟨⟨_, (bO.alloc _).alloc _, World.ownsRow_nil _ _ _ _, trivial⟩, hB0⟩
    (fun x => { tmps := #[.slice base l.length cap, undef, .pointer (some ⟨w.heap.size, 0, none⟩), .int .i64 x, .slice base l.length cap, .func (.func 71) #[] #[.pointer (some ⟨w.heap.size + 1, 0, none⟩), .pointer (some ⟨w.heap.size + 1 + 1, 0, none⟩)], .int .i64 x, undef, undef, undef, undef, undef], defers := [] }) ?assign ?body ?done ?stop
  case assign =>
    intro y x W K hK
    gi_wp2
    exact hK
  case body =>
    rintro y pre x W ⟨⟨v, hv, hrow, _⟩, hB⟩ hlt
    have hc := hv.cell
    gi_wp2_with (gi_at_builtin; refine wpListIn_append_own _ rfl _ _ 24 rfl w.heap.size 3 i0 (.int .i64 0) 1 8 und24 hi hz0 hz1 hz2 rfl (by decide) _ _ _ rfl (hrow.alloc _) ⟨W.heap.size, 0, none⟩ 1 1 [.int .i64 x] rfl rfl (cell_one_new _ _ _) (by simp [Value.oneCell']) (by omega) (by omega) (by have := hB.size; simp; omega) ?_; intro v' w1 hown' hgrow _; obtain ⟨g', cap', rfl⟩ := ownsRow_succ hown'; obtain ⟨hv1, hv2, hr2, hk2, hb2⟩ := hv.appended (by decide) hrow hB.size (Nat.le_refl _) hown' hgrow; have hc1 := hv1.cell; have hf1 := hv1.frozen)
    refine ⟨hk2.from _, ⟨hb2, fun hx => ((hx.alloc _).kept hgrow (hx.not_row (by decide) hrow)).kept (grownBy_setCell' _ _ _) (by simp; omega)⟩, ⟨_, hv2, ?_, trivial⟩, hB.trans hb2⟩
    simpa using hr2
  case done =>
    rintro D ys W hD rfl ⟨⟨v, hv, hrow, _⟩, hB⟩ hK
    have hc := hv.cell
    have hf := hv.frozen
    have hrow2 := hrow.kept (grownBy_setCell' W w.heap.size v) (.inr (hv.not_row (by decide) hrow).symm)
    have hv2 := hv.set v
    have hone : (∃ a m c, v = .slice a m c) := by
      rcases hrow.2 with ⟨rfl, _⟩ | ⟨g, cap, cur, rfl, _⟩ <;> exact ⟨_, _, _, rfl⟩
    obtain ⟨a', m', c', rfl⟩ := hone
    have hDn : D ≠ w.heap.size := by simp at hD; omega
    have hK2 : (W.setCell ⟨w.heap.size, 0, none⟩ (.slice a' m' c')).heap[D]? = some (.deferred (some [])) := by
      rw [← hK]; exact (grownBy_setCell' W w.heap.size (.slice a' m' c')).block D (Array.getElem?_eq_some_iff.1 hK).1 (by intro e; cases e; exact hDn rfl)
    have hB2 : Below w.heap.size w (W.setCell ⟨w.heap.size, 0, none⟩ (.slice a' m' c')) := hB.setCell (Nat.le_refl _) _
    have hc2 := hv2.cell
    generalize hW2 : W.setCell ⟨w.heap.size, 0, none⟩ (.slice a' m' c') = W2 at *
    gi_wp2
    refine ⟨by simp, .inl ⟨_, _, rfl, run_takeDeferred hK2, ?_⟩⟩
    exact ⟨_, results_box rfl _ _ w.heap.size a' m' c' rfl ((hv2.kept (grownBy_putObj' W2 D _) (by intro e; cases e; exact hDn rfl)).cell), _, rfl, ownsRow_putObj hrow2 _ hK2 rfl, hB2.trans (belowK_b (w := w) (Nat.le_refl _) W2 D _ _ (by simp at hD; omega) hK2 rfl rfl)⟩
  case stop =>
    rintro D c pre W _ _ h _
    exact h.elim

theorem places_mem (p : Sk → Bool) : ∀ (i : Nat) (a : List Sk), ∀ k ∈ places p i a, (i : Int) ≤ k ∧ k < i + a.length
  | _, [], k, h => by simp [places] at h
  | i, x :: a, k, h => by
    have ih := fun h => places_mem p (i + 1) a k h
    simp only [places] at h
    split at h
    · rcases List.mem_cons.1 h with h | h
      · simp only [List.length_cons]; omega
      · have := ih h; simp only [List.length_cons]; omega
    · have := ih h; simp only [List.length_cons]; omega
theorem rdL_ints (S : Nat → Prop) (w : World) : ∀ (l : List Int), (∀ k ∈ l, 0 ≤ k ∧ k < 1000000000) → RdL Try.prog I64 S w l (l.map (Value.int .i64))
  | [], _ => rfl
  | k :: l, h => ⟨[.int .i64 k], _, rfl, ⟨rfl, wrap_id (by have := h k (by simp); omega) (by have := h k (by simp); omega)⟩, rdL_ints S w l fun k hk => h k (List.mem_cons_of_mem _ hk)⟩
theorem ints_one {w : World} {b : Nat} {v : Value} {k : Nat} {xs : List Value} (h : w.ownsRow b 3 1 v k xs) : v.oneCell' = true := by
  rcases h.2 with ⟨rfl, _⟩ | ⟨g, cap, cur, rfl, _⟩ <;> rfl
theorem row_fin {n : Nat} {W' : World} {v : Value} (S : Nat → Prop) (l : List Int) (h : ∀ k ∈ l, 0 ≤ k ∧ k < 1000000000) (hr : W'.ownsRow n 3 1 v l.length (l.map (Value.int .i64))) : RdC Try.prog (.sl I64) (fun b => S b ∨ n ≤ b ∧ b < W'.heap.size) W' l [v] :=
  row_reads (c := ⟨fun b => S b ∨ n ≤ b ∧ b < W'.heap.size, W', fun _ => .slice none 0 0, []⟩) hr (rdL_ints _ _ _ h) (fun b hb => hb) (fun b hb => by
    rcases hr.2 with ⟨rfl, _⟩ | ⟨g, cap, cur, rfl, hg, hh, _⟩
    · cases hb
    · cases hb; exact .inr ⟨hg, (Array.getElem?_eq_some_iff.1 hh).1⟩)
theorem live_fin (hg : Valid Try.prog 65 (cTest isOpen)) (l : List Sk) (hl : l.length ≤ 1000000) (w : World) (S : Nat → Prop) (base : Option Addr) (cap : Nat) (hS : ∀ b, S b → b < w.heap.size) (h1 : RdC Try.prog (.sl sockT) S w l [.slice base l.length cap]) :
    Calls Try.prog 46 #[.slice base l.length cap] w fun e w' => Below w.heap.size w w' ∧ ∃ rs, e = .returned (retV (.cons (.sl I64) .unit) rs) ∧ RdC Try.prog (.cons (.sl I64) .unit) (fun b => S b ∨ w.heap.size ≤ b ∧ b < w'.heap.size) w' (places isOpen 0 l, ()) rs ∧ (false = true → ∃ base n, retV (.cons (.sl I64) .unit) rs = .slice base n n) := by
  refine (callsIn_wide.1 (live_in isOpen hg base cap l S (by omega) w hS h1)).mono ?_
  rintro e W' ⟨v, rfl, hr, hb⟩
  refine ⟨hb, [v], ?_, ⟨[v], [], rfl, row_fin S _ (fun k hk => ?_) hr, rfl⟩, fun h => by cases h⟩
  · rcases hr.2 with ⟨rfl, _⟩ | ⟨g, cap, cur, rfl, _⟩ <;> rfl
  · have := places_mem isOpen 0 l k hk
    omega
theorem twice_fin (hg : Valid Try.prog 66 (cTest isTwice)) (l : List Sk) (hl : l.length ≤ 1000000) (w : World) (S : Nat → Prop) (base : Option Addr) (cap : Nat) (hS : ∀ b, S b → b < w.heap.size) (h1 : RdC Try.prog (.sl sockT) S w l [.slice base l.length cap]) :
    Calls Try.prog 51 #[.slice base l.length cap] w fun e w' => Below w.heap.size w w' ∧ ∃ rs, e = .returned (retV (.cons (.sl I64) .unit) rs) ∧ RdC Try.prog (.cons (.sl I64) .unit) (fun b => S b ∨ w.heap.size ≤ b ∧ b < w'.heap.size) w' (places isTwice 0 l, ()) rs ∧ (false = true → ∃ base n, retV (.cons (.sl I64) .unit) rs = .slice base n n) := by
  refine (callsIn_wide.1 (twice_in isTwice hg base cap l S (by omega) w hS h1)).mono ?_
  rintro e W' ⟨v, rfl, hr, hb⟩
  refine ⟨hb, [v], ?_, ⟨[v], [], rfl, row_fin S _ (fun k hk => ?_) hr, rfl⟩, fun h => by cases h⟩
  · rcases hr.2 with ⟨rfl, _⟩ | ⟨g, cap, cur, rfl, _⟩ <;> rfl
  · have := places_mem isTwice 0 l k hk
    omega
theorem val46 (hg : Valid Try.prog 65 (cTest isOpen)) : Valid Try.prog 46 cLv := by
  refine ⟨⟨Try.f46, Try.func46, by kernel_rfl, rfl⟩, fun w S x cs hS hx hpre => ?_⟩
  obtain ⟨l, ⟨⟩⟩ := x
  obtain ⟨c1, c2, rfl, h1, h2⟩ := hx
  obtain rfl : c2 = [] := h2
  have h1' := h1
  obtain ⟨base, cap, rfl, _⟩ := h1
  exact live_fin hg l (of_decide_eq_true hpre) w S base cap hS h1'
theorem val51 (hg : Valid Try.prog 66 (cTest isTwice)) : Valid Try.prog 51 cTw := by
  refine ⟨⟨Try.f51, Try.func51, by kernel_rfl, rfl⟩, fun w S x cs hS hx hpre => ?_⟩
  obtain ⟨l, ⟨⟩⟩ := x
  obtain ⟨c1, c2, rfl, h1, h2⟩ := hx
  obtain rfl : c2 = [] := h2
  have h1' := h1
  obtain ⟨base, cap, rfl, _⟩ := h1
  exact twice_fin hg l (of_decide_eq_true hpre) w S base cap hS h1'
end Go.Proofs.Ytfkfjbppncbkjaa.Sk
namespace Go.Proofs.Ytfkfjbppncbkjaa.Sk
open Go Go.Eng
set_option maxRecDepth 100000
theorem val65 : Valid Try.prog 65 (cTest isOpen) := mkValid Tb.mix Tb.tab_ok Tb.eqs_ok g65 rfl allV_nil allI_nil Try.func65 (by kernel_rfl) v65
theorem val66 : Valid Try.prog 66 (cTest isTwice) := mkValid Tb.mix Tb.tab_ok Tb.eqs_ok g66 rfl allV_nil allI_nil Try.func66 (by kernel_rfl) v66
theorem val60 : Valid Try.prog 60 (cClip sockT) := mkValid Tb.mix Tb.tab_ok Tb.eqs_ok g60 rfl allV_nil allI_nil Try.func60 (by kernel_rfl) v60
theorem val61 : Valid Try.prog 61 (cClip markT) := mkValid Tb.mix Tb.tab_ok Tb.eqs_ok g61 rfl allV_nil allI_nil Try.func61 (by kernel_rfl) v61
theorem val63 : Valid Try.prog 63 (cClone 83 64 sockT) := mkValid Tb.mix Tb.tab_ok Tb.eqs_ok g63 rfl allV_nil allI_nil Try.func63 (by kernel_rfl) v63
theorem val31 : Valid Try.prog 31 cCheck := mkValid Tb.mix Tb.tab_ok Tb.eqs_ok g31 rfl allV_nil allI_nil Try.func31 (by kernel_rfl) v31
theorem val43 : Valid Try.prog 43 cOpen := mkValid Tb.mix Tb.tab_ok Tb.eqs_ok g43 rfl (allV_cons val60 (allV_cons val61 allV_nil)) allI_nil Try.func43 (by kernel_rfl) v43
theorem val45 : Valid Try.prog 45 cShut := mkValid Tb.mix Tb.tab_ok Tb.eqs_ok g45 rfl (allV_cons val61 (allV_cons val63 allV_nil)) allI_nil Try.func45 (by kernel_rfl) v45
theorem val62 : Valid Try.prog 62 cIsOpen := mkValid Tb.mix Tb.tab_ok Tb.eqs_ok g62 rfl (allV_cons val65 allV_nil) allI_nil Try.func62 (by kernel_rfl) v62
theorem val44 : Valid Try.prog 44 cDrop := mkValid Tb.mix Tb.tab_ok Tb.eqs_ok g44 rfl (allV_cons val62 (allV_cons val63 allV_nil)) allI_nil Try.func44 (by kernel_rfl) v44
theorem v32B : vcB g32 300 Try.f32 cWakes08.r (cWakes08.F ()) = true := by kernel_rfl
theorem v32 : Vc g32 300 Try.f32 cWakes08 := Vc.ofB (r := cWakes08.r) (y := cWakes08.F ()) v32B
theorem val32 : Valid Try.prog 32 cWakes08 := mkValid Tb.mix Tb.tab_ok Tb.eqs_ok g32 rfl (allV_cons val31 (allV_cons (val46 val65) (allV_cons (val51 val66) (allV_cons val60 (allV_cons val61 (allV_cons val63 allV_nil)))))) (allI_cons Try.func43 (by kernel_rfl) (allI_cons Try.func45 (by kernel_rfl) allI_nil)) Try.func32 (by kernel_rfl) v32
theorem val8 : Valid Try.prog 8 cSockCheck := mkValid Tb.mix Tb.tab_ok Tb.eqs_ok g8 rfl (allV_cons val31 (allV_cons val32 allV_nil)) (allI_cons Try.func30 (by kernel_rfl) allI_nil) Try.func8 (by kernel_rfl) v8
theorem val11 : Valid Try.prog 11 cPlays := mkValid Tb.mix Tb.tab_ok Tb.eqs_ok g11 rfl (allV_cons val31 (allV_cons val32 (allV_cons val43 (allV_cons val44 (allV_cons val45 (allV_cons (val46 val65) allV_nil)))))) allI_nil Try.func11 (by kernel_rfl) v11
end Go.Proofs.Ytfkfjbppncbkjaa.Sk
set_option maxRecDepth 100000
set_option maxHeartbeats 0
namespace Go.Proofs.Ytfkfjbppncbkjaa.Sk
open Go Go.Eng
def cSame (t : Ty) : Contract := { a := .cons (.sl t) (.cons (.sl t) .unit), r := .cons .bool .unit, pre := fun x => x.1 = x.2.1 ∧ List.length (α := t.El) x.1 ≤ 1000000, F := fun _ => (true, ()) }
def sameL (t : Ty) : LoopAnn where
  α := Int
  keep := [0, 1]
  okeep := []
  nxt := 8
  env := fun _ x => [(5, .dat I64 x)]
  own := fun _ _ => []
  inv := fun s x => 0 ≤ x ∧ x ≤ (bDat (.sl t) s 0).out.length
  mu := fun s x => (bDat (.sl t) s 0).out.length - x.toNat
  pick := some fun _ s => (bDat I64 s 5).out
/-- the blocks that kept slots speak of, but one -/
def others (s : St) (k : Nat) : Go.Eng.Own := (([7, 8, 9, 10, 12, 13, 15, 58, 83].filterMap fun sl => match Go.Eng.look s.env sl with
    | D.own o => some o
    | D.arr o _ _ _ => some o
    | _ => none).filter fun o => decide (o ≠ k)).map fun o => (o, lookO s.own o)
def turnL (t : Ty) (e sl ix n : Nat) : LoopAnn where
  α := Int × List t.El
  keep := [0, 1, 2, 7, 8, 9, 10, 12, 13, 15, 58, 59, 60, 83, 84, 85, sl]
  okeep := []
  nxt := n
  env := fun _ x => [(ix, .dat I64 x.1)]
  own := fun s x => match Go.Eng.look s.env sl with
    | D.own o => (o, Blk.row e t x.2) :: others s o
    | _ => others s 1000
  inv := fun s x => 0 ≤ x.1 ∧ x.2.length = (bRow t s sl).out.length ∧ x.2.length ≤ 1000000
  mu := fun s x => (bRow t s sl).out.length - x.1.toNat
  pick := some fun _ s => ((bDat I64 s ix).out, (bRow t s sl).out)
def cSockOwn : Contract := { a := .cons (.sl sockT) (.cons (.sl markT) (.cons I64 .unit)), r := .cons .bool .unit, pre := fun _ => True, F := fun _ => (true, ()) }
end Go.Proofs.Ytfkfjbppncbkjaa.Sk
namespace Go.Proofs.Ytfkfjbppncbkjaa.Sk
open Go Go.Eng
set_option maxRecDepth 100000
noncomputable def g47 : Cfg := { tab := Tb.tab, cons := [], inls := [], loops := [(4, sameL sockT)], cuts := [], unroll := false, arrs := [] }
noncomputable def g48 : Cfg := { tab := Tb.tab, cons := [], inls := [], loops := [(4, sameL markT)], cuts := [], unroll := false, arrs := [] }
noncomputable def g12 : Cfg := { tab := Tb.tab, cons := [(32, cWakes08), (47, cSame sockT), (48, cSame markT), (60, cClip sockT), (61, cClip markT), (62, cIsOpen), (63, cClone 83 64 sockT)], inls := [(30, Try.f30), (43, Try.f43), (44, Try.f44), (45, Try.f45)], loops := [(12, turnL sockT 83 18 19 60), (20, turnL markT 45 21 22 100)], cuts := [], unroll := true, arrs := [81, 84] }
end Go.Proofs.Ytfkfjbppncbkjaa.Sk
namespace Go.Proofs.Ytfkfjbppncbkjaa.Sk
open Go Go.Eng
set_option maxRecDepth 100000
theorem v47_eq : vcFn g47 300 Try.f47 (cSame sockT) = ( ∀ (x : List ((Int × (Int × Int × Int × Int × Int × Int × Int × Int × Unit) × Int × Unit) × Int × Int × Int × Bool × Unit) × List ((Int × (Int × Int × Int × Int × Int × Int × Int × Int × Unit) × Int × Unit) × Int × Int ×
  Int × Bool × Unit) × Unit), Wr (x.fst = x.snd.fst ∧ List.length x.fst ≤ (1000000 : Nat)) → bcase (!Decidable.decide ((↑(List.length x.fst) : Int) = (↑(List.length x.snd.fst) : Int))) ((Bool.false, ()) = (Bool.true, ()))
  ((Wr ((0 : Int) ≤ (0 : Int) ∧ (0 : Int) ≤ (↑(List.length x.fst) : Int)) ∧ Wr ((0 : Int) = (0 : Int)) ∧ Wr (x.fst = x.fst) ∧ Wr (x.snd.fst = x.snd.fst)) ∧ ∀ (x_1 : Int), Wr ((0 : Int) ≤ x_1 ∧ x_1 ≤ (↑(List.length x.fst)
  : Int)) → bcase (Decidable.decide (x_1 < (↑(List.length x.fst) : Int))) (Wr ((0 : Int) ≤ x_1) ∧ Wr (x_1 < (↑(List.length x.fst) : Int)) ∧ Wr (Bool.true = Bool.true) ∧ Wr ((0 : Int) ≤ x_1) ∧ Wr (x_1 < (↑(List.length
  x.snd.fst) : Int)) ∧ Wr (Bool.true = Bool.true) ∧ bcase (!Ty.eqb (Ty.cons (Ty.cons (Ty.int IntKind.i8) (Ty.cons (Ty.arr (8 : Nat) (Ty.int IntKind.u16)) (Ty.cons (Ty.int IntKind.i64) Ty.unit))) (Ty.cons (Ty.int
  IntKind.i64) (Ty.cons (Ty.int IntKind.i64) (Ty.cons (Ty.int IntKind.i64) (Ty.cons Ty.bool Ty.unit))))) (List.getD x.fst (Int.toNat x_1) (Ty.zero sockT)) (List.getD x.snd.fst (Int.toNat x_1) (Ty.zero sockT)))
  ((Bool.false, ()) = (Bool.true, ())) (Wr ((0 : Int) ≤ IntKind.wrap IntKind.i64 (x_1 + (1 : Int)) ∧ IntKind.wrap IntKind.i64 (x_1 + (1 : Int)) ≤ (↑(List.length x.fst) : Int)) ∧ Wr (List.length x.fst - Int.toNat
  (IntKind.wrap IntKind.i64 (x_1 + (1 : Int))) < List.length x.fst - Int.toNat x_1) ∧ Wr (IntKind.wrap IntKind.i64 (x_1 + (1 : Int)) = IntKind.wrap IntKind.i64 (x_1 + (1 : Int))) ∧ Wr (x.fst = x.fst) ∧ Wr (x.snd.fst =
  x.snd.fst))) ((Bool.true, ()) = (Bool.true, ())))) := by kernel_rfl
theorem v48_eq : vcFn g48 300 Try.f48 (cSame markT) = ( ∀ (x : List (Bool × Int × Int × Unit) × List (Bool × Int × Int × Unit) × Unit), Wr (x.fst = x.snd.fst ∧ List.length x.fst ≤ (1000000 : Nat)) → bcase (!Decidable.decide ((↑(List.length x.fst) : Int) = (↑(List.length
  x.snd.fst) : Int))) ((Bool.false, ()) = (Bool.true, ())) ((Wr ((0 : Int) ≤ (0 : Int) ∧ (0 : Int) ≤ (↑(List.length x.fst) : Int)) ∧ Wr ((0 : Int) = (0 : Int)) ∧ Wr (x.fst = x.fst) ∧ Wr (x.snd.fst = x.snd.fst)) ∧ ∀ (x_1 :
  Int), Wr ((0 : Int) ≤ x_1 ∧ x_1 ≤ (↑(List.length x.fst) : Int)) → bcase (Decidable.decide (x_1 < (↑(List.length x.fst) : Int))) (Wr ((0 : Int) ≤ x_1) ∧ Wr (x_1 < (↑(List.length x.fst) : Int)) ∧ Wr (Bool.true =
  Bool.true) ∧ Wr ((0 : Int) ≤ x_1) ∧ Wr (x_1 < (↑(List.length x.snd.fst) : Int)) ∧ Wr (Bool.true = Bool.true) ∧ bcase (!Ty.eqb (Ty.cons Ty.bool (Ty.cons (Ty.int IntKind.i64) (Ty.cons (Ty.int IntKind.i64) Ty.unit)))
  (List.getD x.fst (Int.toNat x_1) (Ty.zero markT)) (List.getD x.snd.fst (Int.toNat x_1) (Ty.zero markT))) ((Bool.false, ()) = (Bool.true, ())) (Wr ((0 : Int) ≤ IntKind.wrap IntKind.i64 (x_1 + (1 : Int)) ∧ IntKind.wrap
  IntKind.i64 (x_1 + (1 : Int)) ≤ (↑(List.length x.fst) : Int)) ∧ Wr (List.length x.fst - Int.toNat (IntKind.wrap IntKind.i64 (x_1 + (1 : Int))) < List.length x.fst - Int.toNat x_1) ∧ Wr (IntKind.wrap IntKind.i64 (x_1 +
  (1 : Int)) = IntKind.wrap IntKind.i64 (x_1 + (1 : Int))) ∧ Wr (x.fst = x.fst) ∧ Wr (x.snd.fst = x.snd.fst))) ((Bool.true, ()) = (Bool.true, ())))) := by kernel_rfl
theorem v12_eq : vcFn g12 300 Try.f12 cSockOwn = ( ∀ (x : List ((Int × (Int × Int × Int × Int × Int × Int × Int × Int × Unit) × Int × Unit) × Int × Int × Int × Bool × Unit) × List (Bool × Int × Int × Unit) × Int × Unit), Wr True → bcase (Decidable.decide ((↑(List.length
  x.fst) : Int) > (300 : Int)) || Decidable.decide ((↑(List.length x.snd.fst) : Int) > (600 : Int))) (Wr True ∧ (Bool.true, ()) = (Bool.true, ())) (Wr ((List.length (nilL ((Int × (Int × Int × Int × Int × Int × Int × Int ×
  Int × Unit) × Int × Unit) × Int × Int × Int × Bool × Unit)) + List.length x.fst) * (64 : Nat) ≤ (140737488355328 : Nat)) ∧ Wr ((List.length (nilL (Bool × Int × Int × Unit)) + List.length x.snd.fst) * (24 : Nat) ≤
  (140737488355328 : Nat)) ∧ Wr True ∧ Wr ((List.length x.fst + List.length ((((0 : Int), ((0 : Int), (0 : Int), (0 : Int), (0 : Int), (0 : Int), (0 : Int), (0 : Int), (0 : Int), ()), (0 : Int), ()), (1 : Int), (1 : Int),
  (0 : Int), Bool.false, ()) :: nilL ((Int × (Int × Int × Int × Int × Int × Int × Int × Int × Unit) × Int × Unit) × Int × Int × Int × Bool × Unit))) * (64 : Nat) ≤ (140737488355328 : Nat)) ∧ Wr ((0 : Nat) < List.length
  ((((0 : Int), ((0 : Int), (0 : Int), (0 : Int), (0 : Int), (0 : Int), (0 : Int), (0 : Int), (0 : Int), ()), (0 : Int), ()), (1 : Int), (1 : Int), (0 : Int), Bool.false, ()) :: nilL ((Int × (Int × Int × Int × Int × Int ×
  Int × Int × Int × Unit) × Int × Unit) × Int × Int × Int × Bool × Unit))) ∧ Wr True ∧ Wr ((List.length x.snd.fst + List.length ((Bool.false, (↑(List.length x.fst) : Int), (1 : Int), ()) :: nilL (Bool × Int × Int ×
  Unit))) * (24 : Nat) ≤ (140737488355328 : Nat)) ∧ Wr ((0 : Nat) < List.length ((Bool.false, (↑(List.length x.fst) : Int), (1 : Int), ()) :: nilL (Bool × Int × Int × Unit))) ∧ bcase (Decidable.decide (x.snd.snd.fst < (0
  : Int)) || Decidable.decide (x.snd.snd.fst ≥ (↑(List.length x.fst) : Int))) (Wr (Decidable.decide (List.length (x.snd.snd.fst :: nilL Int) ≤ (1000000 : Nat)) = Bool.true) ∧ bcase (!List.all (x.snd.snd.fst :: nilL Int)
  (opens x.fst)) ((Wr ((0 : Int) ≤ (0 : Int) ∧ List.length (x.fst ++ (((0 : Int), ((0 : Int), (0 : Int), (0 : Int), (0 : Int), (0 : Int), (0 : Int), (0 : Int), (0 : Int), ()), (0 : Int), ()), (1 : Int), (1 : Int), (0 :
  Int), Bool.false, ()) :: nilL ((Int × (Int × Int × Int × Int × Int × Int × Int × Int × Unit) × Int × Unit) × Int × Int × Int × Bool × Unit)) = List.length (x.fst ++ (((0 : Int), ((0 : Int), (0 : Int), (0 : Int), (0 :
  Int), (0 : Int), (0 : Int), (0 : Int), (0 : Int), ()), (0 : Int), ()), (1 : Int), (1 : Int), (0 : Int), Bool.false, ()) :: nilL ((Int × (Int × Int × Int × Int × Int × Int × Int × Int × Unit) × Int × Unit) × Int × Int ×
  Int × Bool × Unit)) ∧ List.length (x.fst ++ (((0 : Int), ((0 : Int), (0 : Int), (0 : Int), (0 : Int), (0 : Int), (0 : Int), (0 : Int), (0 : Int), ()), (0 : Int), ()), (1 : Int), (1 : Int), (0 : Int), Bool.false, ()) ::
  nilL ((Int × (Int × Int × Int × Int × Int × Int × Int × Int × Unit) × Int × Unit) × Int × Int × Int × Bool × Unit)) ≤ (1000000 : Nat)) ∧ Wr ((0 : Int) = (0 : Int)) ∧ Wr (x.fst = x.fst) ∧ Wr (x.snd.fst = x.snd.fst) ∧ Wr
  (x.snd.snd.fst = x.snd.snd.fst) ∧ Wr ((↑(3 : Nat) : Int) = (↑(3 : Nat) : Int)) ∧ Wr ((0 : Int) = (0 : Int)) ∧ Wr (x.fst ++ (((0 : Int), ((0 : Int), (0 : Int), (0 : Int), (0 : Int), (0 : Int), (0 : Int), (0 : Int), (0 :
  Int), ()), (0 : Int), ()), (1 : Int), (1 : Int), (0 : Int), Bool.false, ()) :: nilL ((Int × (Int × Int × Int × Int × Int × Int × Int × Int × Unit) × Int × Unit) × Int × Int × Int × Bool × Unit) = x.fst ++ (((0 : Int),
  ((0 : Int), (0 : Int), (0 : Int), (0 : Int), (0 : Int), (0 : Int), (0 : Int), (0 : Int), ()), (0 : Int), ()), (1 : Int), (1 : Int), (0 : Int), Bool.false, ()) :: nilL ((Int × (Int × Int × Int × Int × Int × Int × Int ×
  Int × Unit) × Int × Unit) × Int × Int × Int × Bool × Unit)) ∧ Wr (nilL ((Int × (Int × Int × Int × Int × Int × Int × Int × Int × Unit) × Int × Unit) × Int × Int × Int × Bool × Unit) ++ x.fst = nilL ((Int × (Int × Int ×
  Int × Int × Int × Int × Int × Int × Unit) × Int × Unit) × Int × Int × Int × Bool × Unit) ++ x.fst) ∧ Wr (nilL (Bool × Int × Int × Unit) ++ x.snd.fst = nilL (Bool × Int × Int × Unit) ++ x.snd.fst) ∧ Wr (x.snd.fst ++
  (Bool.false, (↑(List.length x.fst) : Int), (1 : Int), ()) :: nilL (Bool × Int × Int × Unit) = x.snd.fst ++ (Bool.false, (↑(List.length x.fst) : Int), (1 : Int), ()) :: nilL (Bool × Int × Int × Unit))) ∧ ∀ (x_1 : Int ×
  List ((Int × (Int × Int × Int × Int × Int × Int × Int × Int × Unit) × Int × Unit) × Int × Int × Int × Bool × Unit)), Wr ((0 : Int) ≤ x_1.fst ∧ List.length x_1.snd = List.length (x.fst ++ (((0 : Int), ((0 : Int), (0 :
  Int), (0 : Int), (0 : Int), (0 : Int), (0 : Int), (0 : Int), (0 : Int), ()), (0 : Int), ()), (1 : Int), (1 : Int), (0 : Int), Bool.false, ()) :: nilL ((Int × (Int × Int × Int × Int × Int × Int × Int × Int × Unit) × Int
  × Unit) × Int × Int × Int × Bool × Unit)) ∧ List.length x_1.snd ≤ (1000000 : Nat)) → bcase (Decidable.decide (x_1.fst < (↑(List.length x_1.snd) : Int))) (Wr ((0 : Int) ≤ x_1.fst) ∧ Wr (x_1.fst < (↑(List.length x_1.snd)
  : Int)) ∧ Wr ((0 : Int) ≤ x_1.fst) ∧ Wr (x_1.fst < (↑(List.length x_1.snd) : Int)) ∧ Wr ((0 : Int) ≤ IntKind.wrap IntKind.i64 (x_1.fst + (1 : Int)) ∧ List.length (List.set x_1.snd (Int.toNat x_1.fst) ((List.getD x_1.snd
  (Int.toNat x_1.fst) (Ty.zero sockT)).fst, (List.getD x_1.snd (Int.toNat x_1.fst) (Ty.zero sockT)).snd.fst, (List.getD x_1.snd (Int.toNat x_1.fst) (Ty.zero sockT)).snd.snd.fst, xorI IntKind.i64 (List.getD x_1.snd
  (Int.toNat x_1.fst) (Ty.zero sockT)).snd.snd.snd.fst (1 : Int), (List.getD x_1.snd (Int.toNat x_1.fst) (Ty.zero sockT)).snd.snd.snd.snd)) = List.length (x.fst ++ (((0 : Int), ((0 : Int), (0 : Int), (0 : Int), (0 : Int),
  (0 : Int), (0 : Int), (0 : Int), (0 : Int), ()), (0 : Int), ()), (1 : Int), (1 : Int), (0 : Int), Bool.false, ()) :: nilL ((Int × (Int × Int × Int × Int × Int × Int × Int × Int × Unit) × Int × Unit) × Int × Int × Int ×
  Bool × Unit)) ∧ List.length (List.set x_1.snd (Int.toNat x_1.fst) ((List.getD x_1.snd (Int.toNat x_1.fst) (Ty.zero sockT)).fst, (List.getD x_1.snd (Int.toNat x_1.fst) (Ty.zero sockT)).snd.fst, (List.getD x_1.snd
  (Int.toNat x_1.fst) (Ty.zero sockT)).snd.snd.fst, xorI IntKind.i64 (List.getD x_1.snd (Int.toNat x_1.fst) (Ty.zero sockT)).snd.snd.snd.fst (1 : Int), (List.getD x_1.snd (Int.toNat x_1.fst) (Ty.zero
  sockT)).snd.snd.snd.snd)) ≤ (1000000 : Nat)) ∧ Wr (List.length (x.fst ++ (((0 : Int), ((0 : Int), (0 : Int), (0 : Int), (0 : Int), (0 : Int), (0 : Int), (0 : Int), (0 : Int), ()), (0 : Int), ()), (1 : Int), (1 : Int),
  (0 : Int), Bool.false, ()) :: nilL ((Int × (Int × Int × Int × Int × Int × Int × Int × Int × Unit) × Int × Unit) × Int × Int × Int × Bool × Unit)) - Int.toNat (IntKind.wrap IntKind.i64 (x_1.fst + (1 : Int))) <
  List.length (x.fst ++ (((0 : Int), ((0 : Int), (0 : Int), (0 : Int), (0 : Int), (0 : Int), (0 : Int), (0 : Int), (0 : Int), ()), (0 : Int), ()), (1 : Int), (1 : Int), (0 : Int), Bool.false, ()) :: nilL ((Int × (Int ×
  Int × Int × Int × Int × Int × Int × Int × Unit) × Int × Unit) × Int × Int × Int × Bool × Unit)) - Int.toNat x_1.fst) ∧ Wr (IntKind.wrap IntKind.i64 (x_1.fst + (1 : Int)) = IntKind.wrap IntKind.i64 (x_1.fst + (1 : Int)))
  ∧ Wr (x.fst = x.fst) ∧ Wr (x.snd.fst = x.snd.fst) ∧ Wr (x.snd.snd.fst = x.snd.snd.fst) ∧ Wr ((↑(3 : Nat) : Int) = (↑(3 : Nat) : Int)) ∧ Wr ((0 : Int) = (0 : Int)) ∧ Wr (List.set x_1.snd (Int.toNat x_1.fst) ((List.getD
  x_1.snd (Int.toNat x_1.fst) (Ty.zero sockT)).fst, (List.getD x_1.snd (Int.toNat x_1.fst) (Ty.zero sockT)).snd.fst, (List.getD x_1.snd (Int.toNat x_1.fst) (Ty.zero sockT)).snd.snd.fst, xorI IntKind.i64 (List.getD x_1.snd
  (Int.toNat x_1.fst) (Ty.zero sockT)).snd.snd.snd.fst (1 : Int), (List.getD x_1.snd (Int.toNat x_1.fst) (Ty.zero sockT)).snd.snd.snd.snd) = List.set x_1.snd (Int.toNat x_1.fst) ((List.getD x_1.snd (Int.toNat x_1.fst)
  (Ty.zero sockT)).fst, (List.getD x_1.snd (Int.toNat x_1.fst) (Ty.zero sockT)).snd.fst, (List.getD x_1.snd (Int.toNat x_1.fst) (Ty.zero sockT)).snd.snd.fst, xorI IntKind.i64 (List.getD x_1.snd (Int.toNat x_1.fst)
  (Ty.zero sockT)).snd.snd.snd.fst (1 : Int), (List.getD x_1.snd (Int.toNat x_1.fst) (Ty.zero sockT)).snd.snd.snd.snd)) ∧ Wr (nilL ((Int × (Int × Int × Int × Int × Int × Int × Int × Int × Unit) × Int × Unit) × Int × Int ×
  Int × Bool × Unit) ++ x.fst = nilL ((Int × (Int × Int × Int × Int × Int × Int × Int × Int × Unit) × Int × Unit) × Int × Int × Int × Bool × Unit) ++ x.fst) ∧ Wr (nilL (Bool × Int × Int × Unit) ++ x.snd.fst = nilL (Bool ×
  Int × Int × Unit) ++ x.snd.fst) ∧ Wr (x.snd.fst ++ (Bool.false, (↑(List.length x.fst) : Int), (1 : Int), ()) :: nilL (Bool × Int × Int × Unit) = x.snd.fst ++ (Bool.false, (↑(List.length x.fst) : Int), (1 : Int), ()) ::
  nilL (Bool × Int × Int × Unit))) ((Wr ((0 : Int) ≤ (0 : Int) ∧ List.length (nilL ((Int × (Int × Int × Int × Int × Int × Int × Int × Int × Unit) × Int × Unit) × Int × Int × Int × Bool × Unit)) = List.length (nilL ((Int ×
  (Int × Int × Int × Int × Int × Int × Int × Int × Unit) × Int × Unit) × Int × Int × Int × Bool × Unit)) ∧ List.length (nilL ((Int × (Int × Int × Int × Int × Int × Int × Int × Int × Unit) × Int × Unit) × Int × Int × Int ×
  Bool × Unit)) ≤ (1000000 : Nat)) ∧ Wr ((0 : Int) = (0 : Int)) ∧ Wr (x.fst = x.fst) ∧ Wr (x.snd.fst = x.snd.fst) ∧ Wr (x.snd.snd.fst = x.snd.snd.fst) ∧ Wr ((↑(3 : Nat) : Int) = (↑(3 : Nat) : Int)) ∧ Wr (IntKind.wrap
  IntKind.i64 ((0 : Int) + (1 : Int)) = IntKind.wrap IntKind.i64 ((0 : Int) + (1 : Int))) ∧ Wr (nilL ((Int × (Int × Int × Int × Int × Int × Int × Int × Int × Unit) × Int × Unit) × Int × Int × Int × Bool × Unit) ++ x.fst =
  nilL ((Int × (Int × Int × Int × Int × Int × Int × Int × Int × Unit) × Int × Unit) × Int × Int × Int × Bool × Unit) ++ x.fst) ∧ Wr (nilL (Bool × Int × Int × Unit) ++ x.snd.fst = nilL (Bool × Int × Int × Unit) ++
  x.snd.fst) ∧ Wr (x_1.snd = x_1.snd) ∧ Wr (x.snd.fst ++ (Bool.false, (↑(List.length x.fst) : Int), (1 : Int), ()) :: nilL (Bool × Int × Int × Unit) = x.snd.fst ++ (Bool.false, (↑(List.length x.fst) : Int), (1 : Int), ())
  :: nilL (Bool × Int × Int × Unit))) ∧ ∀ (x_2 : Int × List ((Int × (Int × Int × Int × Int × Int × Int × Int × Int × Unit) × Int × Unit) × Int × Int × Int × Bool × Unit)), Wr ((0 : Int) ≤ x_2.fst ∧ List.length x_2.snd =
  List.length (nilL ((Int × (Int × Int × Int × Int × Int × Int × Int × Int × Unit) × Int × Unit) × Int × Int × Int × Bool × Unit)) ∧ List.length x_2.snd ≤ (1000000 : Nat)) → bcase (Decidable.decide (x_2.fst < (0 : Int)))
  (Fail (nat_lit 19) (nat_lit 74)) ((Wr ((0 : Int) ≤ (0 : Int) ∧ List.length (nilL ((Int × (Int × Int × Int × Int × Int × Int × Int × Int × Unit) × Int × Unit) × Int × Int × Int × Bool × Unit)) = List.length (nilL ((Int ×
  (Int × Int × Int × Int × Int × Int × Int × Int × Unit) × Int × Unit) × Int × Int × Int × Bool × Unit)) ∧ List.length (nilL ((Int × (Int × Int × Int × Int × Int × Int × Int × Int × Unit) × Int × Unit) × Int × Int × Int ×
  Bool × Unit)) ≤ (1000000 : Nat)) ∧ Wr ((0 : Int) = (0 : Int)) ∧ Wr (x.fst = x.fst) ∧ Wr (x.snd.fst = x.snd.fst) ∧ Wr (x.snd.snd.fst = x.snd.snd.fst) ∧ Wr ((↑(3 : Nat) : Int) = (↑(3 : Nat) : Int)) ∧ Wr (IntKind.wrap
  IntKind.i64 (IntKind.wrap IntKind.i64 ((0 : Int) + (1 : Int)) + (1 : Int)) = IntKind.wrap IntKind.i64 (IntKind.wrap IntKind.i64 ((0 : Int) + (1 : Int)) + (1 : Int))) ∧ Wr (nilL ((Int × (Int × Int × Int × Int × Int × Int
  × Int × Int × Unit) × Int × Unit) × Int × Int × Int × Bool × Unit) ++ x.fst = nilL ((Int × (Int × Int × Int × Int × Int × Int × Int × Int × Unit) × Int × Unit) × Int × Int × Int × Bool × Unit) ++ x.fst) ∧ Wr (nilL (Bool
  × Int × Int × Unit) ++ x.snd.fst = nilL (Bool × Int × Int × Unit) ++ x.snd.fst) ∧ Wr (x_1.snd = x_1.snd) ∧ Wr (x.snd.fst ++ (Bool.false, (↑(List.length x.fst) : Int), (1 : Int), ()) :: nilL (Bool × Int × Int × Unit) =
  x.snd.fst ++ (Bool.false, (↑(List.length x.fst) : Int), (1 : Int), ()) :: nilL (Bool × Int × Int × Unit))) ∧ ∀ (x_3 : Int × List ((Int × (Int × Int × Int × Int × Int × Int × Int × Int × Unit) × Int × Unit) × Int × Int ×
  Int × Bool × Unit)), Wr ((0 : Int) ≤ x_3.fst ∧ List.length x_3.snd = List.length (nilL ((Int × (Int × Int × Int × Int × Int × Int × Int × Int × Unit) × Int × Unit) × Int × Int × Int × Bool × Unit)) ∧ List.length x_3.snd
  ≤ (1000000 : Nat)) → bcase (Decidable.decide (x_3.fst < (0 : Int))) (Fail (nat_lit 19) (nat_lit 74)) ((Wr ((0 : Int) ≤ (0 : Int) ∧ List.length (x.snd.fst ++ (Bool.false, (↑(List.length x.fst) : Int), (1 : Int), ()) ::
  nilL (Bool × Int × Int × Unit)) = List.length (x.snd.fst ++ (Bool.false, (↑(List.length x.fst) : Int), (1 : Int), ()) :: nilL (Bool × Int × Int × Unit)) ∧ List.length (x.snd.fst ++ (Bool.false, (↑(List.length x.fst) :
  Int), (1 : Int), ()) :: nilL (Bool × Int × Int × Unit)) ≤ (1000000 : Nat)) ∧ Wr ((0 : Int) = (0 : Int)) ∧ Wr (x.fst = x.fst) ∧ Wr (x.snd.fst = x.snd.fst) ∧ Wr (x.snd.snd.fst = x.snd.snd.fst) ∧ Wr ((↑(3 : Nat) : Int) =
  (↑(3 : Nat) : Int)) ∧ Wr (IntKind.wrap IntKind.i64 (IntKind.wrap IntKind.i64 (IntKind.wrap IntKind.i64 ((0 : Int) + (1 : Int)) + (1 : Int)) + (1 : Int)) = IntKind.wrap IntKind.i64 (IntKind.wrap IntKind.i64 (IntKind.wrap
  IntKind.i64 ((0 : Int) + (1 : Int)) + (1 : Int)) + (1 : Int))) ∧ Wr ((↑(2 : Nat) : Int) = (↑(2 : Nat) : Int)) ∧ Wr ((0 : Int) = (0 : Int)) ∧ Wr (x.snd.fst ++ (Bool.false, (↑(List.length x.fst) : Int), (1 : Int), ()) ::
  nilL (Bool × Int × Int × Unit) = x.snd.fst ++ (Bool.false, (↑(List.length x.fst) : Int), (1 : Int), ()) :: nilL (Bool × Int × Int × Unit)) ∧ Wr (nilL ((Int × (Int × Int × Int × Int × Int × Int × Int × Int × Unit) × Int
  × Unit) × Int × Int × Int × Bool × Unit) ++ x.fst = nilL ((Int × (Int × Int × Int × Int × Int × Int × Int × Int × Unit) × Int × Unit) × Int × Int × Int × Bool × Unit) ++ x.fst) ∧ Wr (nilL (Bool × Int × Int × Unit) ++
  x.snd.fst = nilL (Bool × Int × Int × Unit) ++ x.snd.fst) ∧ Wr (x_1.snd = x_1.snd)) ∧ ∀ (x_4 : Int × List (Bool × Int × Int × Unit)), Wr ((0 : Int) ≤ x_4.fst ∧ List.length x_4.snd = List.length (x.snd.fst ++ (Bool.false,
  (↑(List.length x.fst) : Int), (1 : Int), ()) :: nilL (Bool × Int × Int × Unit)) ∧ List.length x_4.snd ≤ (1000000 : Nat)) → bcase (Decidable.decide (x_4.fst < (↑(List.length x_4.snd) : Int))) (Wr ((0 : Int) ≤ x_4.fst) ∧
  Wr (x_4.fst < (↑(List.length x_4.snd) : Int)) ∧ Wr ((0 : Int) ≤ x_4.fst) ∧ Wr (x_4.fst < (↑(List.length x_4.snd) : Int)) ∧ Wr ((0 : Int) ≤ IntKind.wrap IntKind.i64 (x_4.fst + (1 : Int)) ∧ List.length (List.set x_4.snd
  (Int.toNat x_4.fst) ((List.getD x_4.snd (Int.toNat x_4.fst) (Ty.zero markT)).fst, (List.getD x_4.snd (Int.toNat x_4.fst) (Ty.zero markT)).snd.fst, xorI IntKind.i64 (List.getD x_4.snd (Int.toNat x_4.fst) (Ty.zero
  markT)).snd.snd.fst (1 : Int), ())) = List.length (x.snd.fst ++ (Bool.false, (↑(List.length x.fst) : Int), (1 : Int), ()) :: nilL (Bool × Int × Int × Unit)) ∧ List.length (List.set x_4.snd (Int.toNat x_4.fst)
  ((List.getD x_4.snd (Int.toNat x_4.fst) (Ty.zero markT)).fst, (List.getD x_4.snd (Int.toNat x_4.fst) (Ty.zero markT)).snd.fst, xorI IntKind.i64 (List.getD x_4.snd (Int.toNat x_4.fst) (Ty.zero markT)).snd.snd.fst (1 :
  Int), ())) ≤ (1000000 : Nat)) ∧ Wr (List.length (x.snd.fst ++ (Bool.false, (↑(List.length x.fst) : Int), (1 : Int), ()) :: nilL (Bool × Int × Int × Unit)) - Int.toNat (IntKind.wrap IntKind.i64 (x_4.fst + (1 : Int))) <
  List.length (x.snd.fst ++ (Bool.false, (↑(List.length x.fst) : Int), (1 : Int), ()) :: nilL (Bool × Int × Int × Unit)) - Int.toNat x_4.fst) ∧ Wr (IntKind.wrap IntKind.i64 (x_4.fst + (1 : Int)) = IntKind.wrap IntKind.i64
  (x_4.fst + (1 : Int))) ∧ Wr (x.fst = x.fst) ∧ Wr (x.snd.fst = x.snd.fst) ∧ Wr (x.snd.snd.fst = x.snd.snd.fst) ∧ Wr ((↑(3 : Nat) : Int) = (↑(3 : Nat) : Int)) ∧ Wr (IntKind.wrap IntKind.i64 (IntKind.wrap IntKind.i64
  (IntKind.wrap IntKind.i64 ((0 : Int) + (1 : Int)) + (1 : Int)) + (1 : Int)) = IntKind.wrap IntKind.i64 (IntKind.wrap IntKind.i64 (IntKind.wrap IntKind.i64 ((0 : Int) + (1 : Int)) + (1 : Int)) + (1 : Int))) ∧ Wr ((↑(2 :
  Nat) : Int) = (↑(2 : Nat) : Int)) ∧ Wr ((0 : Int) = (0 : Int)) ∧ Wr (List.set x_4.snd (Int.toNat x_4.fst) ((List.getD x_4.snd (Int.toNat x_4.fst) (Ty.zero markT)).fst, (List.getD x_4.snd (Int.toNat x_4.fst) (Ty.zero
  markT)).snd.fst, xorI IntKind.i64 (List.getD x_4.snd (Int.toNat x_4.fst) (Ty.zero markT)).snd.snd.fst (1 : Int), ()) = List.set x_4.snd (Int.toNat x_4.fst) ((List.getD x_4.snd (Int.toNat x_4.fst) (Ty.zero markT)).fst,
  (List.getD x_4.snd (Int.toNat x_4.fst) (Ty.zero markT)).snd.fst, xorI IntKind.i64 (List.getD x_4.snd (Int.toNat x_4.fst) (Ty.zero markT)).snd.snd.fst (1 : Int), ())) ∧ Wr (nilL ((Int × (Int × Int × Int × Int × Int × Int
  × Int × Int × Unit) × Int × Unit) × Int × Int × Int × Bool × Unit) ++ x.fst = nilL ((Int × (Int × Int × Int × Int × Int × Int × Int × Int × Unit) × Int × Unit) × Int × Int × Int × Bool × Unit) ++ x.fst) ∧ Wr (nilL (Bool
  × Int × Int × Unit) ++ x.snd.fst = nilL (Bool × Int × Int × Unit) ++ x.snd.fst) ∧ Wr (x_1.snd = x_1.snd)) ((Wr ((0 : Int) ≤ (0 : Int) ∧ List.length (nilL (Bool × Int × Int × Unit)) = List.length (nilL (Bool × Int × Int
  × Unit)) ∧ List.length (nilL (Bool × Int × Int × Unit)) ≤ (1000000 : Nat)) ∧ Wr ((0 : Int) = (0 : Int)) ∧ Wr (x.fst = x.fst) ∧ Wr (x.snd.fst = x.snd.fst) ∧ Wr (x.snd.snd.fst = x.snd.snd.fst) ∧ Wr ((↑(3 : Nat) : Int) =
  (↑(3 : Nat) : Int)) ∧ Wr (IntKind.wrap IntKind.i64 (IntKind.wrap IntKind.i64 (IntKind.wrap IntKind.i64 ((0 : Int) + (1 : Int)) + (1 : Int)) + (1 : Int)) = IntKind.wrap IntKind.i64 (IntKind.wrap IntKind.i64 (IntKind.wrap
  IntKind.i64 ((0 : Int) + (1 : Int)) + (1 : Int)) + (1 : Int))) ∧ Wr ((↑(2 : Nat) : Int) = (↑(2 : Nat) : Int)) ∧ Wr (IntKind.wrap IntKind.i64 ((0 : Int) + (1 : Int)) = IntKind.wrap IntKind.i64 ((0 : Int) + (1 : Int))) ∧
  Wr (nilL ((Int × (Int × Int × Int × Int × Int × Int × Int × Int × Unit) × Int × Unit) × Int × Int × Int × Bool × Unit) ++ x.fst = nilL ((Int × (Int × Int × Int × Int × Int × Int × Int × Int × Unit) × Int × Unit) × Int ×
  Int × Int × Bool × Unit) ++ x.fst) ∧ Wr (nilL (Bool × Int × Int × Unit) ++ x.snd.fst = nilL (Bool × Int × Int × Unit) ++ x.snd.fst) ∧ Wr (x_1.snd = x_1.snd) ∧ Wr (x_4.snd = x_4.snd)) ∧ ∀ (x_5 : Int × List (Bool × Int ×
  Int × Unit)), Wr ((0 : Int) ≤ x_5.fst ∧ List.length x_5.snd = List.length (nilL (Bool × Int × Int × Unit)) ∧ List.length x_5.snd ≤ (1000000 : Nat)) → bcase (Decidable.decide (x_5.fst < (0 : Int))) (Fail (nat_lit 19)
  (nat_lit 99)) (Wr (x.fst = nilL ((Int × (Int × Int × Int × Int × Int × Int × Int × Int × Unit) × Int × Unit) × Int × Int × Int × Bool × Unit) ++ x.fst ∧ List.length x.fst ≤ (1000000 : Nat)) ∧ Wr (Bool.true = Bool.true →
  x.snd.fst = nilL (Bool × Int × Int × Unit) ++ x.snd.fst ∧ List.length x.snd.fst ≤ (1000000 : Nat)) ∧ Wr ((Bool.true && Bool.true) = Bool.true → True) ∧ (Bool.true && Bool.true && Bool.true, ()) = (Bool.true, ())))))))
  (Wr (Decidable.decide (List.length x.fst * (64 : Nat) ≤ (140737488355328 : Nat)) = Bool.true) ∧ Wr ((0 : Int) ≤ x.snd.snd.fst) ∧ Wr (x.snd.snd.fst < (↑(List.length x.fst) : Int)) ∧ (Wr ((0 : Int) ≤ (0 : Int) ∧
  List.length (x.fst ++ (((0 : Int), ((0 : Int), (0 : Int), (0 : Int), (0 : Int), (0 : Int), (0 : Int), (0 : Int), (0 : Int), ()), (0 : Int), ()), (1 : Int), (1 : Int), (0 : Int), Bool.false, ()) :: nilL ((Int × (Int ×
  Int × Int × Int × Int × Int × Int × Int × Unit) × Int × Unit) × Int × Int × Int × Bool × Unit)) = List.length (x.fst ++ (((0 : Int), ((0 : Int), (0 : Int), (0 : Int), (0 : Int), (0 : Int), (0 : Int), (0 : Int), (0 :
  Int), ()), (0 : Int), ()), (1 : Int), (1 : Int), (0 : Int), Bool.false, ()) :: nilL ((Int × (Int × Int × Int × Int × Int × Int × Int × Int × Unit) × Int × Unit) × Int × Int × Int × Bool × Unit)) ∧ List.length (x.fst ++
  (((0 : Int), ((0 : Int), (0 : Int), (0 : Int), (0 : Int), (0 : Int), (0 : Int), (0 : Int), (0 : Int), ()), (0 : Int), ()), (1 : Int), (1 : Int), (0 : Int), Bool.false, ()) :: nilL ((Int × (Int × Int × Int × Int × Int ×
  Int × Int × Int × Unit) × Int × Unit) × Int × Int × Int × Bool × Unit)) ≤ (1000000 : Nat)) ∧ Wr ((0 : Int) = (0 : Int)) ∧ Wr (x.fst = x.fst) ∧ Wr (x.snd.fst = x.snd.fst) ∧ Wr (x.snd.snd.fst = x.snd.snd.fst) ∧ Wr ((↑(3 :
  Nat) : Int) = (↑(3 : Nat) : Int)) ∧ Wr ((0 : Int) = (0 : Int)) ∧ Wr (x.fst ++ (((0 : Int), ((0 : Int), (0 : Int), (0 : Int), (0 : Int), (0 : Int), (0 : Int), (0 : Int), (0 : Int), ()), (0 : Int), ()), (1 : Int), (1 :
  Int), (0 : Int), Bool.false, ()) :: nilL ((Int × (Int × Int × Int × Int × Int × Int × Int × Int × Unit) × Int × Unit) × Int × Int × Int × Bool × Unit) = x.fst ++ (((0 : Int), ((0 : Int), (0 : Int), (0 : Int), (0 : Int),
  (0 : Int), (0 : Int), (0 : Int), (0 : Int), ()), (0 : Int), ()), (1 : Int), (1 : Int), (0 : Int), Bool.false, ()) :: nilL ((Int × (Int × Int × Int × Int × Int × Int × Int × Int × Unit) × Int × Unit) × Int × Int × Int ×
  Bool × Unit)) ∧ Wr (nilL ((Int × (Int × Int × Int × Int × Int × Int × Int × Int × Unit) × Int × Unit) × Int × Int × Int × Bool × Unit) ++ x.fst = nilL ((Int × (Int × Int × Int × Int × Int × Int × Int × Int × Unit) × Int
  × Unit) × Int × Int × Int × Bool × Unit) ++ x.fst) ∧ Wr (nilL (Bool × Int × Int × Unit) ++ x.snd.fst = nilL (Bool × Int × Int × Unit) ++ x.snd.fst) ∧ Wr (x.snd.fst ++ (Bool.false, (↑(List.length x.fst) : Int), (1 :
  Int), ()) :: nilL (Bool × Int × Int × Unit) = x.snd.fst ++ (Bool.false, (↑(List.length x.fst) : Int), (1 : Int), ()) :: nilL (Bool × Int × Int × Unit)) ∧ Wr (List.set x.fst (Int.toNat x.snd.snd.fst) ((List.getD x.fst
  (Int.toNat x.snd.snd.fst) (Ty.zero sockT)).fst, (List.getD x.fst (Int.toNat x.snd.snd.fst) (Ty.zero sockT)).snd.fst, (List.getD x.fst (Int.toNat x.snd.snd.fst) (Ty.zero sockT)).snd.snd.fst, (List.getD x.fst (Int.toNat
  x.snd.snd.fst) (Ty.zero sockT)).snd.snd.snd.fst, Bool.true, ()) = List.set x.fst (Int.toNat x.snd.snd.fst) ((List.getD x.fst (Int.toNat x.snd.snd.fst) (Ty.zero sockT)).fst, (List.getD x.fst (Int.toNat x.snd.snd.fst)
  (Ty.zero sockT)).snd.fst, (List.getD x.fst (Int.toNat x.snd.snd.fst) (Ty.zero sockT)).snd.snd.fst, (List.getD x.fst (Int.toNat x.snd.snd.fst) (Ty.zero sockT)).snd.snd.snd.fst, Bool.true, ()))) ∧ ∀ (x_1 : Int × List
  ((Int × (Int × Int × Int × Int × Int × Int × Int × Int × Unit) × Int × Unit) × Int × Int × Int × Bool × Unit)), Wr ((0 : Int) ≤ x_1.fst ∧ List.length x_1.snd = List.length (x.fst ++ (((0 : Int), ((0 : Int), (0 : Int),
  (0 : Int), (0 : Int), (0 : Int), (0 : Int), (0 : Int), (0 : Int), ()), (0 : Int), ()), (1 : Int), (1 : Int), (0 : Int), Bool.false, ()) :: nilL ((Int × (Int × Int × Int × Int × Int × Int × Int × Int × Unit) × Int ×
  Unit) × Int × Int × Int × Bool × Unit)) ∧ List.length x_1.snd ≤ (1000000 : Nat)) → bcase (Decidable.decide (x_1.fst < (↑(List.length x_1.snd) : Int))) (Wr ((0 : Int) ≤ x_1.fst) ∧ Wr (x_1.fst < (↑(List.length x_1.snd) :
  Int)) ∧ Wr ((0 : Int) ≤ x_1.fst) ∧ Wr (x_1.fst < (↑(List.length x_1.snd) : Int)) ∧ Wr ((0 : Int) ≤ IntKind.wrap IntKind.i64 (x_1.fst + (1 : Int)) ∧ List.length (List.set x_1.snd (Int.toNat x_1.fst) ((List.getD x_1.snd
  (Int.toNat x_1.fst) (Ty.zero sockT)).fst, (List.getD x_1.snd (Int.toNat x_1.fst) (Ty.zero sockT)).snd.fst, (List.getD x_1.snd (Int.toNat x_1.fst) (Ty.zero sockT)).snd.snd.fst, xorI IntKind.i64 (List.getD x_1.snd
  (Int.toNat x_1.fst) (Ty.zero sockT)).snd.snd.snd.fst (1 : Int), (List.getD x_1.snd (Int.toNat x_1.fst) (Ty.zero sockT)).snd.snd.snd.snd)) = List.length (x.fst ++ (((0 : Int), ((0 : Int), (0 : Int), (0 : Int), (0 : Int),
  (0 : Int), (0 : Int), (0 : Int), (0 : Int), ()), (0 : Int), ()), (1 : Int), (1 : Int), (0 : Int), Bool.false, ()) :: nilL ((Int × (Int × Int × Int × Int × Int × Int × Int × Int × Unit) × Int × Unit) × Int × Int × Int ×
  Bool × Unit)) ∧ List.length (List.set x_1.snd (Int.toNat x_1.fst) ((List.getD x_1.snd (Int.toNat x_1.fst) (Ty.zero sockT)).fst, (List.getD x_1.snd (Int.toNat x_1.fst) (Ty.zero sockT)).snd.fst, (List.getD x_1.snd
  (Int.toNat x_1.fst) (Ty.zero sockT)).snd.snd.fst, xorI IntKind.i64 (List.getD x_1.snd (Int.toNat x_1.fst) (Ty.zero sockT)).snd.snd.snd.fst (1 : Int), (List.getD x_1.snd (Int.toNat x_1.fst) (Ty.zero
  sockT)).snd.snd.snd.snd)) ≤ (1000000 : Nat)) ∧ Wr (List.length (x.fst ++ (((0 : Int), ((0 : Int), (0 : Int), (0 : Int), (0 : Int), (0 : Int), (0 : Int), (0 : Int), (0 : Int), ()), (0 : Int), ()), (1 : Int), (1 : Int),
  (0 : Int), Bool.false, ()) :: nilL ((Int × (Int × Int × Int × Int × Int × Int × Int × Int × Unit) × Int × Unit) × Int × Int × Int × Bool × Unit)) - Int.toNat (IntKind.wrap IntKind.i64 (x_1.fst + (1 : Int))) <
  List.length (x.fst ++ (((0 : Int), ((0 : Int), (0 : Int), (0 : Int), (0 : Int), (0 : Int), (0 : Int), (0 : Int), (0 : Int), ()), (0 : Int), ()), (1 : Int), (1 : Int), (0 : Int), Bool.false, ()) :: nilL ((Int × (Int ×
  Int × Int × Int × Int × Int × Int × Int × Unit) × Int × Unit) × Int × Int × Int × Bool × Unit)) - Int.toNat x_1.fst) ∧ Wr (IntKind.wrap IntKind.i64 (x_1.fst + (1 : Int)) = IntKind.wrap IntKind.i64 (x_1.fst + (1 : Int)))
  ∧ Wr (x.fst = x.fst) ∧ Wr (x.snd.fst = x.snd.fst) ∧ Wr (x.snd.snd.fst = x.snd.snd.fst) ∧ Wr ((↑(3 : Nat) : Int) = (↑(3 : Nat) : Int)) ∧ Wr ((0 : Int) = (0 : Int)) ∧ Wr (List.set x_1.snd (Int.toNat x_1.fst) ((List.getD
  x_1.snd (Int.toNat x_1.fst) (Ty.zero sockT)).fst, (List.getD x_1.snd (Int.toNat x_1.fst) (Ty.zero sockT)).snd.fst, (List.getD x_1.snd (Int.toNat x_1.fst) (Ty.zero sockT)).snd.snd.fst, xorI IntKind.i64 (List.getD x_1.snd
  (Int.toNat x_1.fst) (Ty.zero sockT)).snd.snd.snd.fst (1 : Int), (List.getD x_1.snd (Int.toNat x_1.fst) (Ty.zero sockT)).snd.snd.snd.snd) = List.set x_1.snd (Int.toNat x_1.fst) ((List.getD x_1.snd (Int.toNat x_1.fst)
  (Ty.zero sockT)).fst, (List.getD x_1.snd (Int.toNat x_1.fst) (Ty.zero sockT)).snd.fst, (List.getD x_1.snd (Int.toNat x_1.fst) (Ty.zero sockT)).snd.snd.fst, xorI IntKind.i64 (List.getD x_1.snd (Int.toNat x_1.fst)
  (Ty.zero sockT)).snd.snd.snd.fst (1 : Int), (List.getD x_1.snd (Int.toNat x_1.fst) (Ty.zero sockT)).snd.snd.snd.snd)) ∧ Wr (nilL ((Int × (Int × Int × Int × Int × Int × Int × Int × Int × Unit) × Int × Unit) × Int × Int ×
  Int × Bool × Unit) ++ x.fst = nilL ((Int × (Int × Int × Int × Int × Int × Int × Int × Int × Unit) × Int × Unit) × Int × Int × Int × Bool × Unit) ++ x.fst) ∧ Wr (nilL (Bool × Int × Int × Unit) ++ x.snd.fst = nilL (Bool ×
  Int × Int × Unit) ++ x.snd.fst) ∧ Wr (x.snd.fst ++ (Bool.false, (↑(List.length x.fst) : Int), (1 : Int), ()) :: nilL (Bool × Int × Int × Unit) = x.snd.fst ++ (Bool.false, (↑(List.length x.fst) : Int), (1 : Int), ()) ::
  nilL (Bool × Int × Int × Unit)) ∧ Wr (List.set x.fst (Int.toNat x.snd.snd.fst) ((List.getD x.fst (Int.toNat x.snd.snd.fst) (Ty.zero sockT)).fst, (List.getD x.fst (Int.toNat x.snd.snd.fst) (Ty.zero sockT)).snd.fst,
  (List.getD x.fst (Int.toNat x.snd.snd.fst) (Ty.zero sockT)).snd.snd.fst, (List.getD x.fst (Int.toNat x.snd.snd.fst) (Ty.zero sockT)).snd.snd.snd.fst, Bool.true, ()) = List.set x.fst (Int.toNat x.snd.snd.fst) ((List.getD
  x.fst (Int.toNat x.snd.snd.fst) (Ty.zero sockT)).fst, (List.getD x.fst (Int.toNat x.snd.snd.fst) (Ty.zero sockT)).snd.fst, (List.getD x.fst (Int.toNat x.snd.snd.fst) (Ty.zero sockT)).snd.snd.fst, (List.getD x.fst
  (Int.toNat x.snd.snd.fst) (Ty.zero sockT)).snd.snd.snd.fst, Bool.true, ()))) ((Wr ((0 : Int) ≤ (0 : Int) ∧ List.length (nilL ((Int × (Int × Int × Int × Int × Int × Int × Int × Int × Unit) × Int × Unit) × Int × Int × Int
  × Bool × Unit)) = List.length (nilL ((Int × (Int × Int × Int × Int × Int × Int × Int × Int × Unit) × Int × Unit) × Int × Int × Int × Bool × Unit)) ∧ List.length (nilL ((Int × (Int × Int × Int × Int × Int × Int × Int ×
  Int × Unit) × Int × Unit) × Int × Int × Int × Bool × Unit)) ≤ (1000000 : Nat)) ∧ Wr ((0 : Int) = (0 : Int)) ∧ Wr (x.fst = x.fst) ∧ Wr (x.snd.fst = x.snd.fst) ∧ Wr (x.snd.snd.fst = x.snd.snd.fst) ∧ Wr ((↑(3 : Nat) : Int)
  = (↑(3 : Nat) : Int)) ∧ Wr (IntKind.wrap IntKind.i64 ((0 : Int) + (1 : Int)) = IntKind.wrap IntKind.i64 ((0 : Int) + (1 : Int))) ∧ Wr (nilL ((Int × (Int × Int × Int × Int × Int × Int × Int × Int × Unit) × Int × Unit) ×
  Int × Int × Int × Bool × Unit) ++ x.fst = nilL ((Int × (Int × Int × Int × Int × Int × Int × Int × Int × Unit) × Int × Unit) × Int × Int × Int × Bool × Unit) ++ x.fst) ∧ Wr (nilL (Bool × Int × Int × Unit) ++ x.snd.fst =
  nilL (Bool × Int × Int × Unit) ++ x.snd.fst) ∧ Wr (x_1.snd = x_1.snd) ∧ Wr (x.snd.fst ++ (Bool.false, (↑(List.length x.fst) : Int), (1 : Int), ()) :: nilL (Bool × Int × Int × Unit) = x.snd.fst ++ (Bool.false,
  (↑(List.length x.fst) : Int), (1 : Int), ()) :: nilL (Bool × Int × Int × Unit)) ∧ Wr (List.set x.fst (Int.toNat x.snd.snd.fst) ((List.getD x.fst (Int.toNat x.snd.snd.fst) (Ty.zero sockT)).fst, (List.getD x.fst
  (Int.toNat x.snd.snd.fst) (Ty.zero sockT)).snd.fst, (List.getD x.fst (Int.toNat x.snd.snd.fst) (Ty.zero sockT)).snd.snd.fst, (List.getD x.fst (Int.toNat x.snd.snd.fst) (Ty.zero sockT)).snd.snd.snd.fst, Bool.true, ()) =
  List.set x.fst (Int.toNat x.snd.snd.fst) ((List.getD x.fst (Int.toNat x.snd.snd.fst) (Ty.zero sockT)).fst, (List.getD x.fst (Int.toNat x.snd.snd.fst) (Ty.zero sockT)).snd.fst, (List.getD x.fst (Int.toNat x.snd.snd.fst)
  (Ty.zero sockT)).snd.snd.fst, (List.getD x.fst (Int.toNat x.snd.snd.fst) (Ty.zero sockT)).snd.snd.snd.fst, Bool.true, ()))) ∧ ∀ (x_2 : Int × List ((Int × (Int × Int × Int × Int × Int × Int × Int × Int × Unit) × Int ×
  Unit) × Int × Int × Int × Bool × Unit)), Wr ((0 : Int) ≤ x_2.fst ∧ List.length x_2.snd = List.length (nilL ((Int × (Int × Int × Int × Int × Int × Int × Int × Int × Unit) × Int × Unit) × Int × Int × Int × Bool × Unit)) ∧
  List.length x_2.snd ≤ (1000000 : Nat)) → bcase (Decidable.decide (x_2.fst < (0 : Int))) (Fail (nat_lit 19) (nat_lit 74)) ((Wr ((0 : Int) ≤ (0 : Int) ∧ List.length (List.set x.fst (Int.toNat x.snd.snd.fst) ((List.getD
  x.fst (Int.toNat x.snd.snd.fst) (Ty.zero sockT)).fst, (List.getD x.fst (Int.toNat x.snd.snd.fst) (Ty.zero sockT)).snd.fst, (List.getD x.fst (Int.toNat x.snd.snd.fst) (Ty.zero sockT)).snd.snd.fst, (List.getD x.fst
  (Int.toNat x.snd.snd.fst) (Ty.zero sockT)).snd.snd.snd.fst, Bool.true, ())) = List.length (List.set x.fst (Int.toNat x.snd.snd.fst) ((List.getD x.fst (Int.toNat x.snd.snd.fst) (Ty.zero sockT)).fst, (List.getD x.fst
  (Int.toNat x.snd.snd.fst) (Ty.zero sockT)).snd.fst, (List.getD x.fst (Int.toNat x.snd.snd.fst) (Ty.zero sockT)).snd.snd.fst, (List.getD x.fst (Int.toNat x.snd.snd.fst) (Ty.zero sockT)).snd.snd.snd.fst, Bool.true, ())) ∧
  List.length (List.set x.fst (Int.toNat x.snd.snd.fst) ((List.getD x.fst (Int.toNat x.snd.snd.fst) (Ty.zero sockT)).fst, (List.getD x.fst (Int.toNat x.snd.snd.fst) (Ty.zero sockT)).snd.fst, (List.getD x.fst (Int.toNat
  x.snd.snd.fst) (Ty.zero sockT)).snd.snd.fst, (List.getD x.fst (Int.toNat x.snd.snd.fst) (Ty.zero sockT)).snd.snd.snd.fst, Bool.true, ())) ≤ (1000000 : Nat)) ∧ Wr ((0 : Int) = (0 : Int)) ∧ Wr (x.fst = x.fst) ∧ Wr
  (x.snd.fst = x.snd.fst) ∧ Wr (x.snd.snd.fst = x.snd.snd.fst) ∧ Wr ((↑(3 : Nat) : Int) = (↑(3 : Nat) : Int)) ∧ Wr (IntKind.wrap IntKind.i64 (IntKind.wrap IntKind.i64 ((0 : Int) + (1 : Int)) + (1 : Int)) = IntKind.wrap
  IntKind.i64 (IntKind.wrap IntKind.i64 ((0 : Int) + (1 : Int)) + (1 : Int))) ∧ Wr (List.set x.fst (Int.toNat x.snd.snd.fst) ((List.getD x.fst (Int.toNat x.snd.snd.fst) (Ty.zero sockT)).fst, (List.getD x.fst (Int.toNat
  x.snd.snd.fst) (Ty.zero sockT)).snd.fst, (List.getD x.fst (Int.toNat x.snd.snd.fst) (Ty.zero sockT)).snd.snd.fst, (List.getD x.fst (Int.toNat x.snd.snd.fst) (Ty.zero sockT)).snd.snd.snd.fst, Bool.true, ()) = List.set
  x.fst (Int.toNat x.snd.snd.fst) ((List.getD x.fst (Int.toNat x.snd.snd.fst) (Ty.zero sockT)).fst, (List.getD x.fst (Int.toNat x.snd.snd.fst) (Ty.zero sockT)).snd.fst, (List.getD x.fst (Int.toNat x.snd.snd.fst) (Ty.zero
  sockT)).snd.snd.fst, (List.getD x.fst (Int.toNat x.snd.snd.fst) (Ty.zero sockT)).snd.snd.snd.fst, Bool.true, ())) ∧ Wr (nilL ((Int × (Int × Int × Int × Int × Int × Int × Int × Int × Unit) × Int × Unit) × Int × Int × Int
  × Bool × Unit) ++ x.fst = nilL ((Int × (Int × Int × Int × Int × Int × Int × Int × Int × Unit) × Int × Unit) × Int × Int × Int × Bool × Unit) ++ x.fst) ∧ Wr (nilL (Bool × Int × Int × Unit) ++ x.snd.fst = nilL (Bool × Int
  × Int × Unit) ++ x.snd.fst) ∧ Wr (x_1.snd = x_1.snd) ∧ Wr (x.snd.fst ++ (Bool.false, (↑(List.length x.fst) : Int), (1 : Int), ()) :: nilL (Bool × Int × Int × Unit) = x.snd.fst ++ (Bool.false, (↑(List.length x.fst) :
  Int), (1 : Int), ()) :: nilL (Bool × Int × Int × Unit))) ∧ ∀ (x_3 : Int × List ((Int × (Int × Int × Int × Int × Int × Int × Int × Int × Unit) × Int × Unit) × Int × Int × Int × Bool × Unit)), Wr ((0 : Int) ≤ x_3.fst ∧
  List.length x_3.snd = List.length (List.set x.fst (Int.toNat x.snd.snd.fst) ((List.getD x.fst (Int.toNat x.snd.snd.fst) (Ty.zero sockT)).fst, (List.getD x.fst (Int.toNat x.snd.snd.fst) (Ty.zero sockT)).snd.fst,
  (List.getD x.fst (Int.toNat x.snd.snd.fst) (Ty.zero sockT)).snd.snd.fst, (List.getD x.fst (Int.toNat x.snd.snd.fst) (Ty.zero sockT)).snd.snd.snd.fst, Bool.true, ())) ∧ List.length x_3.snd ≤ (1000000 : Nat)) → bcase
  (Decidable.decide (x_3.fst < (↑(List.length x_3.snd) : Int))) (Wr ((0 : Int) ≤ x_3.fst) ∧ Wr (x_3.fst < (↑(List.length x_3.snd) : Int)) ∧ Wr ((0 : Int) ≤ x_3.fst) ∧ Wr (x_3.fst < (↑(List.length x_3.snd) : Int)) ∧ Wr ((0
  : Int) ≤ IntKind.wrap IntKind.i64 (x_3.fst + (1 : Int)) ∧ List.length (List.set x_3.snd (Int.toNat x_3.fst) ((List.getD x_3.snd (Int.toNat x_3.fst) (Ty.zero sockT)).fst, (List.getD x_3.snd (Int.toNat x_3.fst) (Ty.zero
  sockT)).snd.fst, (List.getD x_3.snd (Int.toNat x_3.fst) (Ty.zero sockT)).snd.snd.fst, xorI IntKind.i64 (List.getD x_3.snd (Int.toNat x_3.fst) (Ty.zero sockT)).snd.snd.snd.fst (1 : Int), (List.getD x_3.snd (Int.toNat
  x_3.fst) (Ty.zero sockT)).snd.snd.snd.snd)) = List.length (List.set x.fst (Int.toNat x.snd.snd.fst) ((List.getD x.fst (Int.toNat x.snd.snd.fst) (Ty.zero sockT)).fst, (List.getD x.fst (Int.toNat x.snd.snd.fst) (Ty.zero
  sockT)).snd.fst, (List.getD x.fst (Int.toNat x.snd.snd.fst) (Ty.zero sockT)).snd.snd.fst, (List.getD x.fst (Int.toNat x.snd.snd.fst) (Ty.zero sockT)).snd.snd.snd.fst, Bool.true, ())) ∧ List.length (List.set x_3.snd
  (Int.toNat x_3.fst) ((List.getD x_3.snd (Int.toNat x_3.fst) (Ty.zero sockT)).fst, (List.getD x_3.snd (Int.toNat x_3.fst) (Ty.zero sockT)).snd.fst, (List.getD x_3.snd (Int.toNat x_3.fst) (Ty.zero sockT)).snd.snd.fst,
  xorI IntKind.i64 (List.getD x_3.snd (Int.toNat x_3.fst) (Ty.zero sockT)).snd.snd.snd.fst (1 : Int), (List.getD x_3.snd (Int.toNat x_3.fst) (Ty.zero sockT)).snd.snd.snd.snd)) ≤ (1000000 : Nat)) ∧ Wr (List.length
  (List.set x.fst (Int.toNat x.snd.snd.fst) ((List.getD x.fst (Int.toNat x.snd.snd.fst) (Ty.zero sockT)).fst, (List.getD x.fst (Int.toNat x.snd.snd.fst) (Ty.zero sockT)).snd.fst, (List.getD x.fst (Int.toNat x.snd.snd.fst)
  (Ty.zero sockT)).snd.snd.fst, (List.getD x.fst (Int.toNat x.snd.snd.fst) (Ty.zero sockT)).snd.snd.snd.fst, Bool.true, ())) - Int.toNat (IntKind.wrap IntKind.i64 (x_3.fst + (1 : Int))) < List.length (List.set x.fst
  (Int.toNat x.snd.snd.fst) ((List.getD x.fst (Int.toNat x.snd.snd.fst) (Ty.zero sockT)).fst, (List.getD x.fst (Int.toNat x.snd.snd.fst) (Ty.zero sockT)).snd.fst, (List.getD x.fst (Int.toNat x.snd.snd.fst) (Ty.zero
  sockT)).snd.snd.fst, (List.getD x.fst (Int.toNat x.snd.snd.fst) (Ty.zero sockT)).snd.snd.snd.fst, Bool.true, ())) - Int.toNat x_3.fst) ∧ Wr (IntKind.wrap IntKind.i64 (x_3.fst + (1 : Int)) = IntKind.wrap IntKind.i64
  (x_3.fst + (1 : Int))) ∧ Wr (x.fst = x.fst) ∧ Wr (x.snd.fst = x.snd.fst) ∧ Wr (x.snd.snd.fst = x.snd.snd.fst) ∧ Wr ((↑(3 : Nat) : Int) = (↑(3 : Nat) : Int)) ∧ Wr (IntKind.wrap IntKind.i64 (IntKind.wrap IntKind.i64 ((0 :
  Int) + (1 : Int)) + (1 : Int)) = IntKind.wrap IntKind.i64 (IntKind.wrap IntKind.i64 ((0 : Int) + (1 : Int)) + (1 : Int))) ∧ Wr (List.set x_3.snd (Int.toNat x_3.fst) ((List.getD x_3.snd (Int.toNat x_3.fst) (Ty.zero
  sockT)).fst, (List.getD x_3.snd (Int.toNat x_3.fst) (Ty.zero sockT)).snd.fst, (List.getD x_3.snd (Int.toNat x_3.fst) (Ty.zero sockT)).snd.snd.fst, xorI IntKind.i64 (List.getD x_3.snd (Int.toNat x_3.fst) (Ty.zero
  sockT)).snd.snd.snd.fst (1 : Int), (List.getD x_3.snd (Int.toNat x_3.fst) (Ty.zero sockT)).snd.snd.snd.snd) = List.set x_3.snd (Int.toNat x_3.fst) ((List.getD x_3.snd (Int.toNat x_3.fst) (Ty.zero sockT)).fst, (List.getD
  x_3.snd (Int.toNat x_3.fst) (Ty.zero sockT)).snd.fst, (List.getD x_3.snd (Int.toNat x_3.fst) (Ty.zero sockT)).snd.snd.fst, xorI IntKind.i64 (List.getD x_3.snd (Int.toNat x_3.fst) (Ty.zero sockT)).snd.snd.snd.fst (1 :
  Int), (List.getD x_3.snd (Int.toNat x_3.fst) (Ty.zero sockT)).snd.snd.snd.snd)) ∧ Wr (nilL ((Int × (Int × Int × Int × Int × Int × Int × Int × Int × Unit) × Int × Unit) × Int × Int × Int × Bool × Unit) ++ x.fst = nilL
  ((Int × (Int × Int × Int × Int × Int × Int × Int × Int × Unit) × Int × Unit) × Int × Int × Int × Bool × Unit) ++ x.fst) ∧ Wr (nilL (Bool × Int × Int × Unit) ++ x.snd.fst = nilL (Bool × Int × Int × Unit) ++ x.snd.fst) ∧
  Wr (x_1.snd = x_1.snd) ∧ Wr (x.snd.fst ++ (Bool.false, (↑(List.length x.fst) : Int), (1 : Int), ()) :: nilL (Bool × Int × Int × Unit) = x.snd.fst ++ (Bool.false, (↑(List.length x.fst) : Int), (1 : Int), ()) :: nilL
  (Bool × Int × Int × Unit))) ((Wr ((0 : Int) ≤ (0 : Int) ∧ List.length (x.snd.fst ++ (Bool.false, (↑(List.length x.fst) : Int), (1 : Int), ()) :: nilL (Bool × Int × Int × Unit)) = List.length (x.snd.fst ++ (Bool.false,
  (↑(List.length x.fst) : Int), (1 : Int), ()) :: nilL (Bool × Int × Int × Unit)) ∧ List.length (x.snd.fst ++ (Bool.false, (↑(List.length x.fst) : Int), (1 : Int), ()) :: nilL (Bool × Int × Int × Unit)) ≤ (1000000 : Nat))
  ∧ Wr ((0 : Int) = (0 : Int)) ∧ Wr (x.fst = x.fst) ∧ Wr (x.snd.fst = x.snd.fst) ∧ Wr (x.snd.snd.fst = x.snd.snd.fst) ∧ Wr ((↑(3 : Nat) : Int) = (↑(3 : Nat) : Int)) ∧ Wr (IntKind.wrap IntKind.i64 (IntKind.wrap IntKind.i64
  (IntKind.wrap IntKind.i64 ((0 : Int) + (1 : Int)) + (1 : Int)) + (1 : Int)) = IntKind.wrap IntKind.i64 (IntKind.wrap IntKind.i64 (IntKind.wrap IntKind.i64 ((0 : Int) + (1 : Int)) + (1 : Int)) + (1 : Int))) ∧ Wr ((↑(2 :
  Nat) : Int) = (↑(2 : Nat) : Int)) ∧ Wr ((0 : Int) = (0 : Int)) ∧ Wr (x.snd.fst ++ (Bool.false, (↑(List.length x.fst) : Int), (1 : Int), ()) :: nilL (Bool × Int × Int × Unit) = x.snd.fst ++ (Bool.false, (↑(List.length
  x.fst) : Int), (1 : Int), ()) :: nilL (Bool × Int × Int × Unit)) ∧ Wr (nilL ((Int × (Int × Int × Int × Int × Int × Int × Int × Int × Unit) × Int × Unit) × Int × Int × Int × Bool × Unit) ++ x.fst = nilL ((Int × (Int ×
  Int × Int × Int × Int × Int × Int × Int × Unit) × Int × Unit) × Int × Int × Int × Bool × Unit) ++ x.fst) ∧ Wr (nilL (Bool × Int × Int × Unit) ++ x.snd.fst = nilL (Bool × Int × Int × Unit) ++ x.snd.fst) ∧ Wr (x_1.snd =
  x_1.snd) ∧ Wr (x_3.snd = x_3.snd)) ∧ ∀ (x_4 : Int × List (Bool × Int × Int × Unit)), Wr ((0 : Int) ≤ x_4.fst ∧ List.length x_4.snd = List.length (x.snd.fst ++ (Bool.false, (↑(List.length x.fst) : Int), (1 : Int), ()) ::
  nilL (Bool × Int × Int × Unit)) ∧ List.length x_4.snd ≤ (1000000 : Nat)) → bcase (Decidable.decide (x_4.fst < (↑(List.length x_4.snd) : Int))) (Wr ((0 : Int) ≤ x_4.fst) ∧ Wr (x_4.fst < (↑(List.length x_4.snd) : Int)) ∧
  Wr ((0 : Int) ≤ x_4.fst) ∧ Wr (x_4.fst < (↑(List.length x_4.snd) : Int)) ∧ Wr ((0 : Int) ≤ IntKind.wrap IntKind.i64 (x_4.fst + (1 : Int)) ∧ List.length (List.set x_4.snd (Int.toNat x_4.fst) ((List.getD x_4.snd
  (Int.toNat x_4.fst) (Ty.zero markT)).fst, (List.getD x_4.snd (Int.toNat x_4.fst) (Ty.zero markT)).snd.fst, xorI IntKind.i64 (List.getD x_4.snd (Int.toNat x_4.fst) (Ty.zero markT)).snd.snd.fst (1 : Int), ())) =
  List.length (x.snd.fst ++ (Bool.false, (↑(List.length x.fst) : Int), (1 : Int), ()) :: nilL (Bool × Int × Int × Unit)) ∧ List.length (List.set x_4.snd (Int.toNat x_4.fst) ((List.getD x_4.snd (Int.toNat x_4.fst) (Ty.zero
  markT)).fst, (List.getD x_4.snd (Int.toNat x_4.fst) (Ty.zero markT)).snd.fst, xorI IntKind.i64 (List.getD x_4.snd (Int.toNat x_4.fst) (Ty.zero markT)).snd.snd.fst (1 : Int), ())) ≤ (1000000 : Nat)) ∧ Wr (List.length
  (x.snd.fst ++ (Bool.false, (↑(List.length x.fst) : Int), (1 : Int), ()) :: nilL (Bool × Int × Int × Unit)) - Int.toNat (IntKind.wrap IntKind.i64 (x_4.fst + (1 : Int))) < List.length (x.snd.fst ++ (Bool.false,
  (↑(List.length x.fst) : Int), (1 : Int), ()) :: nilL (Bool × Int × Int × Unit)) - Int.toNat x_4.fst) ∧ Wr (IntKind.wrap IntKind.i64 (x_4.fst + (1 : Int)) = IntKind.wrap IntKind.i64 (x_4.fst + (1 : Int))) ∧ Wr (x.fst =
  x.fst) ∧ Wr (x.snd.fst = x.snd.fst) ∧ Wr (x.snd.snd.fst = x.snd.snd.fst) ∧ Wr ((↑(3 : Nat) : Int) = (↑(3 : Nat) : Int)) ∧ Wr (IntKind.wrap IntKind.i64 (IntKind.wrap IntKind.i64 (IntKind.wrap IntKind.i64 ((0 : Int) + (1
  : Int)) + (1 : Int)) + (1 : Int)) = IntKind.wrap IntKind.i64 (IntKind.wrap IntKind.i64 (IntKind.wrap IntKind.i64 ((0 : Int) + (1 : Int)) + (1 : Int)) + (1 : Int))) ∧ Wr ((↑(2 : Nat) : Int) = (↑(2 : Nat) : Int)) ∧ Wr ((0
  : Int) = (0 : Int)) ∧ Wr (List.set x_4.snd (Int.toNat x_4.fst) ((List.getD x_4.snd (Int.toNat x_4.fst) (Ty.zero markT)).fst, (List.getD x_4.snd (Int.toNat x_4.fst) (Ty.zero markT)).snd.fst, xorI IntKind.i64 (List.getD
  x_4.snd (Int.toNat x_4.fst) (Ty.zero markT)).snd.snd.fst (1 : Int), ()) = List.set x_4.snd (Int.toNat x_4.fst) ((List.getD x_4.snd (Int.toNat x_4.fst) (Ty.zero markT)).fst, (List.getD x_4.snd (Int.toNat x_4.fst)
  (Ty.zero markT)).snd.fst, xorI IntKind.i64 (List.getD x_4.snd (Int.toNat x_4.fst) (Ty.zero markT)).snd.snd.fst (1 : Int), ())) ∧ Wr (nilL ((Int × (Int × Int × Int × Int × Int × Int × Int × Int × Unit) × Int × Unit) ×
  Int × Int × Int × Bool × Unit) ++ x.fst = nilL ((Int × (Int × Int × Int × Int × Int × Int × Int × Int × Unit) × Int × Unit) × Int × Int × Int × Bool × Unit) ++ x.fst) ∧ Wr (nilL (Bool × Int × Int × Unit) ++ x.snd.fst =
  nilL (Bool × Int × Int × Unit) ++ x.snd.fst) ∧ Wr (x_1.snd = x_1.snd) ∧ Wr (x_3.snd = x_3.snd)) ((Wr ((0 : Int) ≤ (0 : Int) ∧ List.length (nilL (Bool × Int × Int × Unit)) = List.length (nilL (Bool × Int × Int × Unit)) ∧
  List.length (nilL (Bool × Int × Int × Unit)) ≤ (1000000 : Nat)) ∧ Wr ((0 : Int) = (0 : Int)) ∧ Wr (x.fst = x.fst) ∧ Wr (x.snd.fst = x.snd.fst) ∧ Wr (x.snd.snd.fst = x.snd.snd.fst) ∧ Wr ((↑(3 : Nat) : Int) = (↑(3 : Nat)
  : Int)) ∧ Wr (IntKind.wrap IntKind.i64 (IntKind.wrap IntKind.i64 (IntKind.wrap IntKind.i64 ((0 : Int) + (1 : Int)) + (1 : Int)) + (1 : Int)) = IntKind.wrap IntKind.i64 (IntKind.wrap IntKind.i64 (IntKind.wrap IntKind.i64
  ((0 : Int) + (1 : Int)) + (1 : Int)) + (1 : Int))) ∧ Wr ((↑(2 : Nat) : Int) = (↑(2 : Nat) : Int)) ∧ Wr (IntKind.wrap IntKind.i64 ((0 : Int) + (1 : Int)) = IntKind.wrap IntKind.i64 ((0 : Int) + (1 : Int))) ∧ Wr (nilL
  ((Int × (Int × Int × Int × Int × Int × Int × Int × Int × Unit) × Int × Unit) × Int × Int × Int × Bool × Unit) ++ x.fst = nilL ((Int × (Int × Int × Int × Int × Int × Int × Int × Int × Unit) × Int × Unit) × Int × Int ×
  Int × Bool × Unit) ++ x.fst) ∧ Wr (nilL (Bool × Int × Int × Unit) ++ x.snd.fst = nilL (Bool × Int × Int × Unit) ++ x.snd.fst) ∧ Wr (x_1.snd = x_1.snd) ∧ Wr (x_4.snd = x_4.snd) ∧ Wr (x_3.snd = x_3.snd)) ∧ ∀ (x_5 : Int ×
  List (Bool × Int × Int × Unit)), Wr ((0 : Int) ≤ x_5.fst ∧ List.length x_5.snd = List.length (nilL (Bool × Int × Int × Unit)) ∧ List.length x_5.snd ≤ (1000000 : Nat)) → bcase (Decidable.decide (x_5.fst < (0 : Int)))
  (Fail (nat_lit 19) (nat_lit 99)) (Wr (x.fst = nilL ((Int × (Int × Int × Int × Int × Int × Int × Int × Int × Unit) × Int × Unit) × Int × Int × Int × Bool × Unit) ++ x.fst ∧ List.length x.fst ≤ (1000000 : Nat)) ∧ Wr
  (Bool.true = Bool.true → x.snd.fst = nilL (Bool × Int × Int × Unit) ++ x.snd.fst ∧ List.length x.snd.fst ≤ (1000000 : Nat)) ∧ Wr ((Bool.true && Bool.true) = Bool.true → True) ∧ (Bool.true && Bool.true && Bool.true, ())
  = (Bool.true, ())))))))) (Wr (Decidable.decide (List.length x.fst * (64 : Nat) ≤ (140737488355328 : Nat)) = Bool.true) ∧ Wr ((0 : Int) ≤ x.snd.snd.fst) ∧ Wr (x.snd.snd.fst < (↑(List.length x.fst) : Int)) ∧ Wr ((0 : Int)
  ≤ x.snd.snd.fst) ∧ Wr (x.snd.snd.fst < (↑(List.length x.fst) : Int)) ∧ Wr True ∧ Wr ((List.length x.snd.fst + List.length ((Bool.true, x.snd.snd.fst, (1 : Int), ()) :: nilL (Bool × Int × Int × Unit))) * (24 : Nat) ≤
  (140737488355328 : Nat)) ∧ Wr ((0 : Nat) < List.length ((Bool.true, x.snd.snd.fst, (1 : Int), ()) :: nilL (Bool × Int × Int × Unit))) ∧ Wr (Decidable.decide (List.length (x.snd.snd.fst :: nilL Int) ≤ (1000000 : Nat)) =
  Bool.true) ∧ bcase (!List.all (x.snd.snd.fst :: nilL Int) (opens x.fst)) ((Wr ((0 : Int) ≤ (0 : Int) ∧ List.length (x.fst ++ (((0 : Int), ((0 : Int), (0 : Int), (0 : Int), (0 : Int), (0 : Int), (0 : Int), (0 : Int), (0
  : Int), ()), (0 : Int), ()), (1 : Int), (1 : Int), (0 : Int), Bool.false, ()) :: nilL ((Int × (Int × Int × Int × Int × Int × Int × Int × Int × Unit) × Int × Unit) × Int × Int × Int × Bool × Unit)) = List.length (x.fst
  ++ (((0 : Int), ((0 : Int), (0 : Int), (0 : Int), (0 : Int), (0 : Int), (0 : Int), (0 : Int), (0 : Int), ()), (0 : Int), ()), (1 : Int), (1 : Int), (0 : Int), Bool.false, ()) :: nilL ((Int × (Int × Int × Int × Int × Int
  × Int × Int × Int × Unit) × Int × Unit) × Int × Int × Int × Bool × Unit)) ∧ List.length (x.fst ++ (((0 : Int), ((0 : Int), (0 : Int), (0 : Int), (0 : Int), (0 : Int), (0 : Int), (0 : Int), (0 : Int), ()), (0 : Int),
  ()), (1 : Int), (1 : Int), (0 : Int), Bool.false, ()) :: nilL ((Int × (Int × Int × Int × Int × Int × Int × Int × Int × Unit) × Int × Unit) × Int × Int × Int × Bool × Unit)) ≤ (1000000 : Nat)) ∧ Wr ((0 : Int) = (0 :
  Int)) ∧ Wr (x.fst = x.fst) ∧ Wr (x.snd.fst = x.snd.fst) ∧ Wr (x.snd.snd.fst = x.snd.snd.fst) ∧ Wr ((↑(3 : Nat) : Int) = (↑(3 : Nat) : Int)) ∧ Wr ((0 : Int) = (0 : Int)) ∧ Wr (x.fst ++ (((0 : Int), ((0 : Int), (0 : Int),
  (0 : Int), (0 : Int), (0 : Int), (0 : Int), (0 : Int), (0 : Int), ()), (0 : Int), ()), (1 : Int), (1 : Int), (0 : Int), Bool.false, ()) :: nilL ((Int × (Int × Int × Int × Int × Int × Int × Int × Int × Unit) × Int ×
  Unit) × Int × Int × Int × Bool × Unit) = x.fst ++ (((0 : Int), ((0 : Int), (0 : Int), (0 : Int), (0 : Int), (0 : Int), (0 : Int), (0 : Int), (0 : Int), ()), (0 : Int), ()), (1 : Int), (1 : Int), (0 : Int), Bool.false,
  ()) :: nilL ((Int × (Int × Int × Int × Int × Int × Int × Int × Int × Unit) × Int × Unit) × Int × Int × Int × Bool × Unit)) ∧ Wr (nilL ((Int × (Int × Int × Int × Int × Int × Int × Int × Int × Unit) × Int × Unit) × Int ×
  Int × Int × Bool × Unit) ++ x.fst = nilL ((Int × (Int × Int × Int × Int × Int × Int × Int × Int × Unit) × Int × Unit) × Int × Int × Int × Bool × Unit) ++ x.fst) ∧ Wr (nilL (Bool × Int × Int × Unit) ++ x.snd.fst = nilL
  (Bool × Int × Int × Unit) ++ x.snd.fst) ∧ Wr (x.snd.fst ++ (Bool.false, (↑(List.length x.fst) : Int), (1 : Int), ()) :: nilL (Bool × Int × Int × Unit) = x.snd.fst ++ (Bool.false, (↑(List.length x.fst) : Int), (1 : Int),
  ()) :: nilL (Bool × Int × Int × Unit)) ∧ Wr (List.set x.fst (Int.toNat x.snd.snd.fst) ((List.getD x.fst (Int.toNat x.snd.snd.fst) (Ty.zero sockT)).fst, (List.getD x.fst (Int.toNat x.snd.snd.fst) (Ty.zero
  sockT)).snd.fst, (List.getD x.fst (Int.toNat x.snd.snd.fst) (Ty.zero sockT)).snd.snd.fst, IntKind.wrap IntKind.i64 ((List.getD x.fst (Int.toNat x.snd.snd.fst) (Ty.zero sockT)).snd.snd.snd.fst + (1 : Int)), (List.getD
  x.fst (Int.toNat x.snd.snd.fst) (Ty.zero sockT)).snd.snd.snd.snd) = List.set x.fst (Int.toNat x.snd.snd.fst) ((List.getD x.fst (Int.toNat x.snd.snd.fst) (Ty.zero sockT)).fst, (List.getD x.fst (Int.toNat x.snd.snd.fst)
  (Ty.zero sockT)).snd.fst, (List.getD x.fst (Int.toNat x.snd.snd.fst) (Ty.zero sockT)).snd.snd.fst, IntKind.wrap IntKind.i64 ((List.getD x.fst (Int.toNat x.snd.snd.fst) (Ty.zero sockT)).snd.snd.snd.fst + (1 : Int)),
  (List.getD x.fst (Int.toNat x.snd.snd.fst) (Ty.zero sockT)).snd.snd.snd.snd)) ∧ Wr (x.snd.fst ++ (Bool.true, x.snd.snd.fst, (1 : Int), ()) :: nilL (Bool × Int × Int × Unit) = x.snd.fst ++ (Bool.true, x.snd.snd.fst, (1 :
  Int), ()) :: nilL (Bool × Int × Int × Unit))) ∧ ∀ (x_1 : Int × List ((Int × (Int × Int × Int × Int × Int × Int × Int × Int × Unit) × Int × Unit) × Int × Int × Int × Bool × Unit)), Wr ((0 : Int) ≤ x_1.fst ∧ List.length
  x_1.snd = List.length (x.fst ++ (((0 : Int), ((0 : Int), (0 : Int), (0 : Int), (0 : Int), (0 : Int), (0 : Int), (0 : Int), (0 : Int), ()), (0 : Int), ()), (1 : Int), (1 : Int), (0 : Int), Bool.false, ()) :: nilL ((Int ×
  (Int × Int × Int × Int × Int × Int × Int × Int × Unit) × Int × Unit) × Int × Int × Int × Bool × Unit)) ∧ List.length x_1.snd ≤ (1000000 : Nat)) → bcase (Decidable.decide (x_1.fst < (↑(List.length x_1.snd) : Int))) (Wr
  ((0 : Int) ≤ x_1.fst) ∧ Wr (x_1.fst < (↑(List.length x_1.snd) : Int)) ∧ Wr ((0 : Int) ≤ x_1.fst) ∧ Wr (x_1.fst < (↑(List.length x_1.snd) : Int)) ∧ Wr ((0 : Int) ≤ IntKind.wrap IntKind.i64 (x_1.fst + (1 : Int)) ∧
  List.length (List.set x_1.snd (Int.toNat x_1.fst) ((List.getD x_1.snd (Int.toNat x_1.fst) (Ty.zero sockT)).fst, (List.getD x_1.snd (Int.toNat x_1.fst) (Ty.zero sockT)).snd.fst, (List.getD x_1.snd (Int.toNat x_1.fst)
  (Ty.zero sockT)).snd.snd.fst, xorI IntKind.i64 (List.getD x_1.snd (Int.toNat x_1.fst) (Ty.zero sockT)).snd.snd.snd.fst (1 : Int), (List.getD x_1.snd (Int.toNat x_1.fst) (Ty.zero sockT)).snd.snd.snd.snd)) = List.length
  (x.fst ++ (((0 : Int), ((0 : Int), (0 : Int), (0 : Int), (0 : Int), (0 : Int), (0 : Int), (0 : Int), (0 : Int), ()), (0 : Int), ()), (1 : Int), (1 : Int), (0 : Int), Bool.false, ()) :: nilL ((Int × (Int × Int × Int ×
  Int × Int × Int × Int × Int × Unit) × Int × Unit) × Int × Int × Int × Bool × Unit)) ∧ List.length (List.set x_1.snd (Int.toNat x_1.fst) ((List.getD x_1.snd (Int.toNat x_1.fst) (Ty.zero sockT)).fst, (List.getD x_1.snd
  (Int.toNat x_1.fst) (Ty.zero sockT)).snd.fst, (List.getD x_1.snd (Int.toNat x_1.fst) (Ty.zero sockT)).snd.snd.fst, xorI IntKind.i64 (List.getD x_1.snd (Int.toNat x_1.fst) (Ty.zero sockT)).snd.snd.snd.fst (1 : Int),
  (List.getD x_1.snd (Int.toNat x_1.fst) (Ty.zero sockT)).snd.snd.snd.snd)) ≤ (1000000 : Nat)) ∧ Wr (List.length (x.fst ++ (((0 : Int), ((0 : Int), (0 : Int), (0 : Int), (0 : Int), (0 : Int), (0 : Int), (0 : Int), (0 :
  Int), ()), (0 : Int), ()), (1 : Int), (1 : Int), (0 : Int), Bool.false, ()) :: nilL ((Int × (Int × Int × Int × Int × Int × Int × Int × Int × Unit) × Int × Unit) × Int × Int × Int × Bool × Unit)) - Int.toNat
  (IntKind.wrap IntKind.i64 (x_1.fst + (1 : Int))) < List.length (x.fst ++ (((0 : Int), ((0 : Int), (0 : Int), (0 : Int), (0 : Int), (0 : Int), (0 : Int), (0 : Int), (0 : Int), ()), (0 : Int), ()), (1 : Int), (1 : Int),
  (0 : Int), Bool.false, ()) :: nilL ((Int × (Int × Int × Int × Int × Int × Int × Int × Int × Unit) × Int × Unit) × Int × Int × Int × Bool × Unit)) - Int.toNat x_1.fst) ∧ Wr (IntKind.wrap IntKind.i64 (x_1.fst + (1 : Int))
  = IntKind.wrap IntKind.i64 (x_1.fst + (1 : Int))) ∧ Wr (x.fst = x.fst) ∧ Wr (x.snd.fst = x.snd.fst) ∧ Wr (x.snd.snd.fst = x.snd.snd.fst) ∧ Wr ((↑(3 : Nat) : Int) = (↑(3 : Nat) : Int)) ∧ Wr ((0 : Int) = (0 : Int)) ∧ Wr
  (List.set x_1.snd (Int.toNat x_1.fst) ((List.getD x_1.snd (Int.toNat x_1.fst) (Ty.zero sockT)).fst, (List.getD x_1.snd (Int.toNat x_1.fst) (Ty.zero sockT)).snd.fst, (List.getD x_1.snd (Int.toNat x_1.fst) (Ty.zero
  sockT)).snd.snd.fst, xorI IntKind.i64 (List.getD x_1.snd (Int.toNat x_1.fst) (Ty.zero sockT)).snd.snd.snd.fst (1 : Int), (List.getD x_1.snd (Int.toNat x_1.fst) (Ty.zero sockT)).snd.snd.snd.snd) = List.set x_1.snd
  (Int.toNat x_1.fst) ((List.getD x_1.snd (Int.toNat x_1.fst) (Ty.zero sockT)).fst, (List.getD x_1.snd (Int.toNat x_1.fst) (Ty.zero sockT)).snd.fst, (List.getD x_1.snd (Int.toNat x_1.fst) (Ty.zero sockT)).snd.snd.fst,
  xorI IntKind.i64 (List.getD x_1.snd (Int.toNat x_1.fst) (Ty.zero sockT)).snd.snd.snd.fst (1 : Int), (List.getD x_1.snd (Int.toNat x_1.fst) (Ty.zero sockT)).snd.snd.snd.snd)) ∧ Wr (nilL ((Int × (Int × Int × Int × Int ×
  Int × Int × Int × Int × Unit) × Int × Unit) × Int × Int × Int × Bool × Unit) ++ x.fst = nilL ((Int × (Int × Int × Int × Int × Int × Int × Int × Int × Unit) × Int × Unit) × Int × Int × Int × Bool × Unit) ++ x.fst) ∧ Wr
  (nilL (Bool × Int × Int × Unit) ++ x.snd.fst = nilL (Bool × Int × Int × Unit) ++ x.snd.fst) ∧ Wr (x.snd.fst ++ (Bool.false, (↑(List.length x.fst) : Int), (1 : Int), ()) :: nilL (Bool × Int × Int × Unit) = x.snd.fst ++
  (Bool.false, (↑(List.length x.fst) : Int), (1 : Int), ()) :: nilL (Bool × Int × Int × Unit)) ∧ Wr (List.set x.fst (Int.toNat x.snd.snd.fst) ((List.getD x.fst (Int.toNat x.snd.snd.fst) (Ty.zero sockT)).fst, (List.getD
  x.fst (Int.toNat x.snd.snd.fst) (Ty.zero sockT)).snd.fst, (List.getD x.fst (Int.toNat x.snd.snd.fst) (Ty.zero sockT)).snd.snd.fst, IntKind.wrap IntKind.i64 ((List.getD x.fst (Int.toNat x.snd.snd.fst) (Ty.zero
  sockT)).snd.snd.snd.fst + (1 : Int)), (List.getD x.fst (Int.toNat x.snd.snd.fst) (Ty.zero sockT)).snd.snd.snd.snd) = List.set x.fst (Int.toNat x.snd.snd.fst) ((List.getD x.fst (Int.toNat x.snd.snd.fst) (Ty.zero
  sockT)).fst, (List.getD x.fst (Int.toNat x.snd.snd.fst) (Ty.zero sockT)).snd.fst, (List.getD x.fst (Int.toNat x.snd.snd.fst) (Ty.zero sockT)).snd.snd.fst, IntKind.wrap IntKind.i64 ((List.getD x.fst (Int.toNat
  x.snd.snd.fst) (Ty.zero sockT)).snd.snd.snd.fst + (1 : Int)), (List.getD x.fst (Int.toNat x.snd.snd.fst) (Ty.zero sockT)).snd.snd.snd.snd)) ∧ Wr (x.snd.fst ++ (Bool.true, x.snd.snd.fst, (1 : Int), ()) :: nilL (Bool ×
  Int × Int × Unit) = x.snd.fst ++ (Bool.true, x.snd.snd.fst, (1 : Int), ()) :: nilL (Bool × Int × Int × Unit))) ((Wr ((0 : Int) ≤ (0 : Int) ∧ List.length (List.set x.fst (Int.toNat x.snd.snd.fst) ((List.getD x.fst
  (Int.toNat x.snd.snd.fst) (Ty.zero sockT)).fst, (List.getD x.fst (Int.toNat x.snd.snd.fst) (Ty.zero sockT)).snd.fst, (List.getD x.fst (Int.toNat x.snd.snd.fst) (Ty.zero sockT)).snd.snd.fst, IntKind.wrap IntKind.i64
  ((List.getD x.fst (Int.toNat x.snd.snd.fst) (Ty.zero sockT)).snd.snd.snd.fst + (1 : Int)), (List.getD x.fst (Int.toNat x.snd.snd.fst) (Ty.zero sockT)).snd.snd.snd.snd)) = List.length (List.set x.fst (Int.toNat
  x.snd.snd.fst) ((List.getD x.fst (Int.toNat x.snd.snd.fst) (Ty.zero sockT)).fst, (List.getD x.fst (Int.toNat x.snd.snd.fst) (Ty.zero sockT)).snd.fst, (List.getD x.fst (Int.toNat x.snd.snd.fst) (Ty.zero
  sockT)).snd.snd.fst, IntKind.wrap IntKind.i64 ((List.getD x.fst (Int.toNat x.snd.snd.fst) (Ty.zero sockT)).snd.snd.snd.fst + (1 : Int)), (List.getD x.fst (Int.toNat x.snd.snd.fst) (Ty.zero sockT)).snd.snd.snd.snd)) ∧
  List.length (List.set x.fst (Int.toNat x.snd.snd.fst) ((List.getD x.fst (Int.toNat x.snd.snd.fst) (Ty.zero sockT)).fst, (List.getD x.fst (Int.toNat x.snd.snd.fst) (Ty.zero sockT)).snd.fst, (List.getD x.fst (Int.toNat
  x.snd.snd.fst) (Ty.zero sockT)).snd.snd.fst, IntKind.wrap IntKind.i64 ((List.getD x.fst (Int.toNat x.snd.snd.fst) (Ty.zero sockT)).snd.snd.snd.fst + (1 : Int)), (List.getD x.fst (Int.toNat x.snd.snd.fst) (Ty.zero
  sockT)).snd.snd.snd.snd)) ≤ (1000000 : Nat)) ∧ Wr ((0 : Int) = (0 : Int)) ∧ Wr (x.fst = x.fst) ∧ Wr (x.snd.fst = x.snd.fst) ∧ Wr (x.snd.snd.fst = x.snd.snd.fst) ∧ Wr ((↑(3 : Nat) : Int) = (↑(3 : Nat) : Int)) ∧ Wr
  (IntKind.wrap IntKind.i64 ((0 : Int) + (1 : Int)) = IntKind.wrap IntKind.i64 ((0 : Int) + (1 : Int))) ∧ Wr (List.set x.fst (Int.toNat x.snd.snd.fst) ((List.getD x.fst (Int.toNat x.snd.snd.fst) (Ty.zero sockT)).fst,
  (List.getD x.fst (Int.toNat x.snd.snd.fst) (Ty.zero sockT)).snd.fst, (List.getD x.fst (Int.toNat x.snd.snd.fst) (Ty.zero sockT)).snd.snd.fst, IntKind.wrap IntKind.i64 ((List.getD x.fst (Int.toNat x.snd.snd.fst) (Ty.zero
  sockT)).snd.snd.snd.fst + (1 : Int)), (List.getD x.fst (Int.toNat x.snd.snd.fst) (Ty.zero sockT)).snd.snd.snd.snd) = List.set x.fst (Int.toNat x.snd.snd.fst) ((List.getD x.fst (Int.toNat x.snd.snd.fst) (Ty.zero
  sockT)).fst, (List.getD x.fst (Int.toNat x.snd.snd.fst) (Ty.zero sockT)).snd.fst, (List.getD x.fst (Int.toNat x.snd.snd.fst) (Ty.zero sockT)).snd.snd.fst, IntKind.wrap IntKind.i64 ((List.getD x.fst (Int.toNat
  x.snd.snd.fst) (Ty.zero sockT)).snd.snd.snd.fst + (1 : Int)), (List.getD x.fst (Int.toNat x.snd.snd.fst) (Ty.zero sockT)).snd.snd.snd.snd)) ∧ Wr (nilL ((Int × (Int × Int × Int × Int × Int × Int × Int × Int × Unit) × Int
  × Unit) × Int × Int × Int × Bool × Unit) ++ x.fst = nilL ((Int × (Int × Int × Int × Int × Int × Int × Int × Int × Unit) × Int × Unit) × Int × Int × Int × Bool × Unit) ++ x.fst) ∧ Wr (nilL (Bool × Int × Int × Unit) ++
  x.snd.fst = nilL (Bool × Int × Int × Unit) ++ x.snd.fst) ∧ Wr (x_1.snd = x_1.snd) ∧ Wr (x.snd.fst ++ (Bool.false, (↑(List.length x.fst) : Int), (1 : Int), ()) :: nilL (Bool × Int × Int × Unit) = x.snd.fst ++
  (Bool.false, (↑(List.length x.fst) : Int), (1 : Int), ()) :: nilL (Bool × Int × Int × Unit)) ∧ Wr (x.snd.fst ++ (Bool.true, x.snd.snd.fst, (1 : Int), ()) :: nilL (Bool × Int × Int × Unit) = x.snd.fst ++ (Bool.true,
  x.snd.snd.fst, (1 : Int), ()) :: nilL (Bool × Int × Int × Unit))) ∧ ∀ (x_2 : Int × List ((Int × (Int × Int × Int × Int × Int × Int × Int × Int × Unit) × Int × Unit) × Int × Int × Int × Bool × Unit)), Wr ((0 : Int) ≤
  x_2.fst ∧ List.length x_2.snd = List.length (List.set x.fst (Int.toNat x.snd.snd.fst) ((List.getD x.fst (Int.toNat x.snd.snd.fst) (Ty.zero sockT)).fst, (List.getD x.fst (Int.toNat x.snd.snd.fst) (Ty.zero
  sockT)).snd.fst, (List.getD x.fst (Int.toNat x.snd.snd.fst) (Ty.zero sockT)).snd.snd.fst, IntKind.wrap IntKind.i64 ((List.getD x.fst (Int.toNat x.snd.snd.fst) (Ty.zero sockT)).snd.snd.snd.fst + (1 : Int)), (List.getD
  x.fst (Int.toNat x.snd.snd.fst) (Ty.zero sockT)).snd.snd.snd.snd)) ∧ List.length x_2.snd ≤ (1000000 : Nat)) → bcase (Decidable.decide (x_2.fst < (↑(List.length x_2.snd) : Int))) (Wr ((0 : Int) ≤ x_2.fst) ∧ Wr (x_2.fst <
  (↑(List.length x_2.snd) : Int)) ∧ Wr ((0 : Int) ≤ x_2.fst) ∧ Wr (x_2.fst < (↑(List.length x_2.snd) : Int)) ∧ Wr ((0 : Int) ≤ IntKind.wrap IntKind.i64 (x_2.fst + (1 : Int)) ∧ List.length (List.set x_2.snd (Int.toNat
  x_2.fst) ((List.getD x_2.snd (Int.toNat x_2.fst) (Ty.zero sockT)).fst, (List.getD x_2.snd (Int.toNat x_2.fst) (Ty.zero sockT)).snd.fst, (List.getD x_2.snd (Int.toNat x_2.fst) (Ty.zero sockT)).snd.snd.fst, xorI
  IntKind.i64 (List.getD x_2.snd (Int.toNat x_2.fst) (Ty.zero sockT)).snd.snd.snd.fst (1 : Int), (List.getD x_2.snd (Int.toNat x_2.fst) (Ty.zero sockT)).snd.snd.snd.snd)) = List.length (List.set x.fst (Int.toNat
  x.snd.snd.fst) ((List.getD x.fst (Int.toNat x.snd.snd.fst) (Ty.zero sockT)).fst, (List.getD x.fst (Int.toNat x.snd.snd.fst) (Ty.zero sockT)).snd.fst, (List.getD x.fst (Int.toNat x.snd.snd.fst) (Ty.zero
  sockT)).snd.snd.fst, IntKind.wrap IntKind.i64 ((List.getD x.fst (Int.toNat x.snd.snd.fst) (Ty.zero sockT)).snd.snd.snd.fst + (1 : Int)), (List.getD x.fst (Int.toNat x.snd.snd.fst) (Ty.zero sockT)).snd.snd.snd.snd)) ∧
  List.length (List.set x_2.snd (Int.toNat x_2.fst) ((List.getD x_2.snd (Int.toNat x_2.fst) (Ty.zero sockT)).fst, (List.getD x_2.snd (Int.toNat x_2.fst) (Ty.zero sockT)).snd.fst, (List.getD x_2.snd (Int.toNat x_2.fst)
  (Ty.zero sockT)).snd.snd.fst, xorI IntKind.i64 (List.getD x_2.snd (Int.toNat x_2.fst) (Ty.zero sockT)).snd.snd.snd.fst (1 : Int), (List.getD x_2.snd (Int.toNat x_2.fst) (Ty.zero sockT)).snd.snd.snd.snd)) ≤ (1000000 :
  Nat)) ∧ Wr (List.length (List.set x.fst (Int.toNat x.snd.snd.fst) ((List.getD x.fst (Int.toNat x.snd.snd.fst) (Ty.zero sockT)).fst, (List.getD x.fst (Int.toNat x.snd.snd.fst) (Ty.zero sockT)).snd.fst, (List.getD x.fst
  (Int.toNat x.snd.snd.fst) (Ty.zero sockT)).snd.snd.fst, IntKind.wrap IntKind.i64 ((List.getD x.fst (Int.toNat x.snd.snd.fst) (Ty.zero sockT)).snd.snd.snd.fst + (1 : Int)), (List.getD x.fst (Int.toNat x.snd.snd.fst)
  (Ty.zero sockT)).snd.snd.snd.snd)) - Int.toNat (IntKind.wrap IntKind.i64 (x_2.fst + (1 : Int))) < List.length (List.set x.fst (Int.toNat x.snd.snd.fst) ((List.getD x.fst (Int.toNat x.snd.snd.fst) (Ty.zero sockT)).fst,
  (List.getD x.fst (Int.toNat x.snd.snd.fst) (Ty.zero sockT)).snd.fst, (List.getD x.fst (Int.toNat x.snd.snd.fst) (Ty.zero sockT)).snd.snd.fst, IntKind.wrap IntKind.i64 ((List.getD x.fst (Int.toNat x.snd.snd.fst) (Ty.zero
  sockT)).snd.snd.snd.fst + (1 : Int)), (List.getD x.fst (Int.toNat x.snd.snd.fst) (Ty.zero sockT)).snd.snd.snd.snd)) - Int.toNat x_2.fst) ∧ Wr (IntKind.wrap IntKind.i64 (x_2.fst + (1 : Int)) = IntKind.wrap IntKind.i64
  (x_2.fst + (1 : Int))) ∧ Wr (x.fst = x.fst) ∧ Wr (x.snd.fst = x.snd.fst) ∧ Wr (x.snd.snd.fst = x.snd.snd.fst) ∧ Wr ((↑(3 : Nat) : Int) = (↑(3 : Nat) : Int)) ∧ Wr (IntKind.wrap IntKind.i64 ((0 : Int) + (1 : Int)) =
  IntKind.wrap IntKind.i64 ((0 : Int) + (1 : Int))) ∧ Wr (List.set x_2.snd (Int.toNat x_2.fst) ((List.getD x_2.snd (Int.toNat x_2.fst) (Ty.zero sockT)).fst, (List.getD x_2.snd (Int.toNat x_2.fst) (Ty.zero sockT)).snd.fst,
  (List.getD x_2.snd (Int.toNat x_2.fst) (Ty.zero sockT)).snd.snd.fst, xorI IntKind.i64 (List.getD x_2.snd (Int.toNat x_2.fst) (Ty.zero sockT)).snd.snd.snd.fst (1 : Int), (List.getD x_2.snd (Int.toNat x_2.fst) (Ty.zero
  sockT)).snd.snd.snd.snd) = List.set x_2.snd (Int.toNat x_2.fst) ((List.getD x_2.snd (Int.toNat x_2.fst) (Ty.zero sockT)).fst, (List.getD x_2.snd (Int.toNat x_2.fst) (Ty.zero sockT)).snd.fst, (List.getD x_2.snd
  (Int.toNat x_2.fst) (Ty.zero sockT)).snd.snd.fst, xorI IntKind.i64 (List.getD x_2.snd (Int.toNat x_2.fst) (Ty.zero sockT)).snd.snd.snd.fst (1 : Int), (List.getD x_2.snd (Int.toNat x_2.fst) (Ty.zero
  sockT)).snd.snd.snd.snd)) ∧ Wr (nilL ((Int × (Int × Int × Int × Int × Int × Int × Int × Int × Unit) × Int × Unit) × Int × Int × Int × Bool × Unit) ++ x.fst = nilL ((Int × (Int × Int × Int × Int × Int × Int × Int × Int ×
  Unit) × Int × Unit) × Int × Int × Int × Bool × Unit) ++ x.fst) ∧ Wr (nilL (Bool × Int × Int × Unit) ++ x.snd.fst = nilL (Bool × Int × Int × Unit) ++ x.snd.fst) ∧ Wr (x_1.snd = x_1.snd) ∧ Wr (x.snd.fst ++ (Bool.false,
  (↑(List.length x.fst) : Int), (1 : Int), ()) :: nilL (Bool × Int × Int × Unit) = x.snd.fst ++ (Bool.false, (↑(List.length x.fst) : Int), (1 : Int), ()) :: nilL (Bool × Int × Int × Unit)) ∧ Wr (x.snd.fst ++ (Bool.true,
  x.snd.snd.fst, (1 : Int), ()) :: nilL (Bool × Int × Int × Unit) = x.snd.fst ++ (Bool.true, x.snd.snd.fst, (1 : Int), ()) :: nilL (Bool × Int × Int × Unit))) ((Wr ((0 : Int) ≤ (0 : Int) ∧ List.length (nilL ((Int × (Int ×
  Int × Int × Int × Int × Int × Int × Int × Unit) × Int × Unit) × Int × Int × Int × Bool × Unit)) = List.length (nilL ((Int × (Int × Int × Int × Int × Int × Int × Int × Int × Unit) × Int × Unit) × Int × Int × Int × Bool ×
  Unit)) ∧ List.length (nilL ((Int × (Int × Int × Int × Int × Int × Int × Int × Int × Unit) × Int × Unit) × Int × Int × Int × Bool × Unit)) ≤ (1000000 : Nat)) ∧ Wr ((0 : Int) = (0 : Int)) ∧ Wr (x.fst = x.fst) ∧ Wr
  (x.snd.fst = x.snd.fst) ∧ Wr (x.snd.snd.fst = x.snd.snd.fst) ∧ Wr ((↑(3 : Nat) : Int) = (↑(3 : Nat) : Int)) ∧ Wr (IntKind.wrap IntKind.i64 (IntKind.wrap IntKind.i64 ((0 : Int) + (1 : Int)) + (1 : Int)) = IntKind.wrap
  IntKind.i64 (IntKind.wrap IntKind.i64 ((0 : Int) + (1 : Int)) + (1 : Int))) ∧ Wr (nilL ((Int × (Int × Int × Int × Int × Int × Int × Int × Int × Unit) × Int × Unit) × Int × Int × Int × Bool × Unit) ++ x.fst = nilL ((Int
  × (Int × Int × Int × Int × Int × Int × Int × Int × Unit) × Int × Unit) × Int × Int × Int × Bool × Unit) ++ x.fst) ∧ Wr (nilL (Bool × Int × Int × Unit) ++ x.snd.fst = nilL (Bool × Int × Int × Unit) ++ x.snd.fst) ∧ Wr
  (x_1.snd = x_1.snd) ∧ Wr (x.snd.fst ++ (Bool.false, (↑(List.length x.fst) : Int), (1 : Int), ()) :: nilL (Bool × Int × Int × Unit) = x.snd.fst ++ (Bool.false, (↑(List.length x.fst) : Int), (1 : Int), ()) :: nilL (Bool ×
  Int × Int × Unit)) ∧ Wr (x_2.snd = x_2.snd) ∧ Wr (x.snd.fst ++ (Bool.true, x.snd.snd.fst, (1 : Int), ()) :: nilL (Bool × Int × Int × Unit) = x.snd.fst ++ (Bool.true, x.snd.snd.fst, (1 : Int), ()) :: nilL (Bool × Int ×
  Int × Unit))) ∧ ∀ (x_3 : Int × List ((Int × (Int × Int × Int × Int × Int × Int × Int × Int × Unit) × Int × Unit) × Int × Int × Int × Bool × Unit)), Wr ((0 : Int) ≤ x_3.fst ∧ List.length x_3.snd = List.length (nilL ((Int
  × (Int × Int × Int × Int × Int × Int × Int × Int × Unit) × Int × Unit) × Int × Int × Int × Bool × Unit)) ∧ List.length x_3.snd ≤ (1000000 : Nat)) → bcase (Decidable.decide (x_3.fst < (0 : Int))) (Fail (nat_lit 19)
  (nat_lit 74)) ((Wr ((0 : Int) ≤ (0 : Int) ∧ List.length (x.snd.fst ++ (Bool.false, (↑(List.length x.fst) : Int), (1 : Int), ()) :: nilL (Bool × Int × Int × Unit)) = List.length (x.snd.fst ++ (Bool.false, (↑(List.length
  x.fst) : Int), (1 : Int), ()) :: nilL (Bool × Int × Int × Unit)) ∧ List.length (x.snd.fst ++ (Bool.false, (↑(List.length x.fst) : Int), (1 : Int), ()) :: nilL (Bool × Int × Int × Unit)) ≤ (1000000 : Nat)) ∧ Wr ((0 :
  Int) = (0 : Int)) ∧ Wr (x.fst = x.fst) ∧ Wr (x.snd.fst = x.snd.fst) ∧ Wr (x.snd.snd.fst = x.snd.snd.fst) ∧ Wr ((↑(3 : Nat) : Int) = (↑(3 : Nat) : Int)) ∧ Wr (IntKind.wrap IntKind.i64 (IntKind.wrap IntKind.i64
  (IntKind.wrap IntKind.i64 ((0 : Int) + (1 : Int)) + (1 : Int)) + (1 : Int)) = IntKind.wrap IntKind.i64 (IntKind.wrap IntKind.i64 (IntKind.wrap IntKind.i64 ((0 : Int) + (1 : Int)) + (1 : Int)) + (1 : Int))) ∧ Wr ((↑(2 :
  Nat) : Int) = (↑(2 : Nat) : Int)) ∧ Wr ((0 : Int) = (0 : Int)) ∧ Wr (x.snd.fst ++ (Bool.false, (↑(List.length x.fst) : Int), (1 : Int), ()) :: nilL (Bool × Int × Int × Unit) = x.snd.fst ++ (Bool.false, (↑(List.length
  x.fst) : Int), (1 : Int), ()) :: nilL (Bool × Int × Int × Unit)) ∧ Wr (nilL ((Int × (Int × Int × Int × Int × Int × Int × Int × Int × Unit) × Int × Unit) × Int × Int × Int × Bool × Unit) ++ x.fst = nilL ((Int × (Int ×
  Int × Int × Int × Int × Int × Int × Int × Unit) × Int × Unit) × Int × Int × Int × Bool × Unit) ++ x.fst) ∧ Wr (nilL (Bool × Int × Int × Unit) ++ x.snd.fst = nilL (Bool × Int × Int × Unit) ++ x.snd.fst) ∧ Wr (x_1.snd =
  x_1.snd) ∧ Wr (x_2.snd = x_2.snd) ∧ Wr (x.snd.fst ++ (Bool.true, x.snd.snd.fst, (1 : Int), ()) :: nilL (Bool × Int × Int × Unit) = x.snd.fst ++ (Bool.true, x.snd.snd.fst, (1 : Int), ()) :: nilL (Bool × Int × Int ×
  Unit))) ∧ ∀ (x_4 : Int × List (Bool × Int × Int × Unit)), Wr ((0 : Int) ≤ x_4.fst ∧ List.length x_4.snd = List.length (x.snd.fst ++ (Bool.false, (↑(List.length x.fst) : Int), (1 : Int), ()) :: nilL (Bool × Int × Int ×
  Unit)) ∧ List.length x_4.snd ≤ (1000000 : Nat)) → bcase (Decidable.decide (x_4.fst < (↑(List.length x_4.snd) : Int))) (Wr ((0 : Int) ≤ x_4.fst) ∧ Wr (x_4.fst < (↑(List.length x_4.snd) : Int)) ∧ Wr ((0 : Int) ≤ x_4.fst)
  ∧ Wr (x_4.fst < (↑(List.length x_4.snd) : Int)) ∧ Wr ((0 : Int) ≤ IntKind.wrap IntKind.i64 (x_4.fst + (1 : Int)) ∧ List.length (List.set x_4.snd (Int.toNat x_4.fst) ((List.getD x_4.snd (Int.toNat x_4.fst) (Ty.zero
  markT)).fst, (List.getD x_4.snd (Int.toNat x_4.fst) (Ty.zero markT)).snd.fst, xorI IntKind.i64 (List.getD x_4.snd (Int.toNat x_4.fst) (Ty.zero markT)).snd.snd.fst (1 : Int), ())) = List.length (x.snd.fst ++ (Bool.false,
  (↑(List.length x.fst) : Int), (1 : Int), ()) :: nilL (Bool × Int × Int × Unit)) ∧ List.length (List.set x_4.snd (Int.toNat x_4.fst) ((List.getD x_4.snd (Int.toNat x_4.fst) (Ty.zero markT)).fst, (List.getD x_4.snd
  (Int.toNat x_4.fst) (Ty.zero markT)).snd.fst, xorI IntKind.i64 (List.getD x_4.snd (Int.toNat x_4.fst) (Ty.zero markT)).snd.snd.fst (1 : Int), ())) ≤ (1000000 : Nat)) ∧ Wr (List.length (x.snd.fst ++ (Bool.false,
  (↑(List.length x.fst) : Int), (1 : Int), ()) :: nilL (Bool × Int × Int × Unit)) - Int.toNat (IntKind.wrap IntKind.i64 (x_4.fst + (1 : Int))) < List.length (x.snd.fst ++ (Bool.false, (↑(List.length x.fst) : Int), (1 :
  Int), ()) :: nilL (Bool × Int × Int × Unit)) - Int.toNat x_4.fst) ∧ Wr (IntKind.wrap IntKind.i64 (x_4.fst + (1 : Int)) = IntKind.wrap IntKind.i64 (x_4.fst + (1 : Int))) ∧ Wr (x.fst = x.fst) ∧ Wr (x.snd.fst = x.snd.fst)
  ∧ Wr (x.snd.snd.fst = x.snd.snd.fst) ∧ Wr ((↑(3 : Nat) : Int) = (↑(3 : Nat) : Int)) ∧ Wr (IntKind.wrap IntKind.i64 (IntKind.wrap IntKind.i64 (IntKind.wrap IntKind.i64 ((0 : Int) + (1 : Int)) + (1 : Int)) + (1 : Int)) =
  IntKind.wrap IntKind.i64 (IntKind.wrap IntKind.i64 (IntKind.wrap IntKind.i64 ((0 : Int) + (1 : Int)) + (1 : Int)) + (1 : Int))) ∧ Wr ((↑(2 : Nat) : Int) = (↑(2 : Nat) : Int)) ∧ Wr ((0 : Int) = (0 : Int)) ∧ Wr (List.set
  x_4.snd (Int.toNat x_4.fst) ((List.getD x_4.snd (Int.toNat x_4.fst) (Ty.zero markT)).fst, (List.getD x_4.snd (Int.toNat x_4.fst) (Ty.zero markT)).snd.fst, xorI IntKind.i64 (List.getD x_4.snd (Int.toNat x_4.fst) (Ty.zero
  markT)).snd.snd.fst (1 : Int), ()) = List.set x_4.snd (Int.toNat x_4.fst) ((List.getD x_4.snd (Int.toNat x_4.fst) (Ty.zero markT)).fst, (List.getD x_4.snd (Int.toNat x_4.fst) (Ty.zero markT)).snd.fst, xorI IntKind.i64
  (List.getD x_4.snd (Int.toNat x_4.fst) (Ty.zero markT)).snd.snd.fst (1 : Int), ())) ∧ Wr (nilL ((Int × (Int × Int × Int × Int × Int × Int × Int × Int × Unit) × Int × Unit) × Int × Int × Int × Bool × Unit) ++ x.fst =
  nilL ((Int × (Int × Int × Int × Int × Int × Int × Int × Int × Unit) × Int × Unit) × Int × Int × Int × Bool × Unit) ++ x.fst) ∧ Wr (nilL (Bool × Int × Int × Unit) ++ x.snd.fst = nilL (Bool × Int × Int × Unit) ++
  x.snd.fst) ∧ Wr (x_1.snd = x_1.snd) ∧ Wr (x_2.snd = x_2.snd) ∧ Wr (x.snd.fst ++ (Bool.true, x.snd.snd.fst, (1 : Int), ()) :: nilL (Bool × Int × Int × Unit) = x.snd.fst ++ (Bool.true, x.snd.snd.fst, (1 : Int), ()) ::
  nilL (Bool × Int × Int × Unit))) ((Wr ((0 : Int) ≤ (0 : Int) ∧ List.length (x.snd.fst ++ (Bool.true, x.snd.snd.fst, (1 : Int), ()) :: nilL (Bool × Int × Int × Unit)) = List.length (x.snd.fst ++ (Bool.true,
  x.snd.snd.fst, (1 : Int), ()) :: nilL (Bool × Int × Int × Unit)) ∧ List.length (x.snd.fst ++ (Bool.true, x.snd.snd.fst, (1 : Int), ()) :: nilL (Bool × Int × Int × Unit)) ≤ (1000000 : Nat)) ∧ Wr ((0 : Int) = (0 : Int)) ∧
  Wr (x.fst = x.fst) ∧ Wr (x.snd.fst = x.snd.fst) ∧ Wr (x.snd.snd.fst = x.snd.snd.fst) ∧ Wr ((↑(3 : Nat) : Int) = (↑(3 : Nat) : Int)) ∧ Wr (IntKind.wrap IntKind.i64 (IntKind.wrap IntKind.i64 (IntKind.wrap IntKind.i64 ((0
  : Int) + (1 : Int)) + (1 : Int)) + (1 : Int)) = IntKind.wrap IntKind.i64 (IntKind.wrap IntKind.i64 (IntKind.wrap IntKind.i64 ((0 : Int) + (1 : Int)) + (1 : Int)) + (1 : Int))) ∧ Wr ((↑(2 : Nat) : Int) = (↑(2 : Nat) :
  Int)) ∧ Wr (IntKind.wrap IntKind.i64 ((0 : Int) + (1 : Int)) = IntKind.wrap IntKind.i64 ((0 : Int) + (1 : Int))) ∧ Wr (x.snd.fst ++ (Bool.true, x.snd.snd.fst, (1 : Int), ()) :: nilL (Bool × Int × Int × Unit) = x.snd.fst
  ++ (Bool.true, x.snd.snd.fst, (1 : Int), ()) :: nilL (Bool × Int × Int × Unit)) ∧ Wr (nilL ((Int × (Int × Int × Int × Int × Int × Int × Int × Int × Unit) × Int × Unit) × Int × Int × Int × Bool × Unit) ++ x.fst = nilL
  ((Int × (Int × Int × Int × Int × Int × Int × Int × Int × Unit) × Int × Unit) × Int × Int × Int × Bool × Unit) ++ x.fst) ∧ Wr (nilL (Bool × Int × Int × Unit) ++ x.snd.fst = nilL (Bool × Int × Int × Unit) ++ x.snd.fst) ∧
  Wr (x_1.snd = x_1.snd) ∧ Wr (x_4.snd = x_4.snd) ∧ Wr (x_2.snd = x_2.snd)) ∧ ∀ (x_5 : Int × List (Bool × Int × Int × Unit)), Wr ((0 : Int) ≤ x_5.fst ∧ List.length x_5.snd = List.length (x.snd.fst ++ (Bool.true,
  x.snd.snd.fst, (1 : Int), ()) :: nilL (Bool × Int × Int × Unit)) ∧ List.length x_5.snd ≤ (1000000 : Nat)) → bcase (Decidable.decide (x_5.fst < (↑(List.length x_5.snd) : Int))) (Wr ((0 : Int) ≤ x_5.fst) ∧ Wr (x_5.fst <
  (↑(List.length x_5.snd) : Int)) ∧ Wr ((0 : Int) ≤ x_5.fst) ∧ Wr (x_5.fst < (↑(List.length x_5.snd) : Int)) ∧ Wr ((0 : Int) ≤ IntKind.wrap IntKind.i64 (x_5.fst + (1 : Int)) ∧ List.length (List.set x_5.snd (Int.toNat
  x_5.fst) ((List.getD x_5.snd (Int.toNat x_5.fst) (Ty.zero markT)).fst, (List.getD x_5.snd (Int.toNat x_5.fst) (Ty.zero markT)).snd.fst, xorI IntKind.i64 (List.getD x_5.snd (Int.toNat x_5.fst) (Ty.zero
  markT)).snd.snd.fst (1 : Int), ())) = List.length (x.snd.fst ++ (Bool.true, x.snd.snd.fst, (1 : Int), ()) :: nilL (Bool × Int × Int × Unit)) ∧ List.length (List.set x_5.snd (Int.toNat x_5.fst) ((List.getD x_5.snd
  (Int.toNat x_5.fst) (Ty.zero markT)).fst, (List.getD x_5.snd (Int.toNat x_5.fst) (Ty.zero markT)).snd.fst, xorI IntKind.i64 (List.getD x_5.snd (Int.toNat x_5.fst) (Ty.zero markT)).snd.snd.fst (1 : Int), ())) ≤ (1000000
  : Nat)) ∧ Wr (List.length (x.snd.fst ++ (Bool.true, x.snd.snd.fst, (1 : Int), ()) :: nilL (Bool × Int × Int × Unit)) - Int.toNat (IntKind.wrap IntKind.i64 (x_5.fst + (1 : Int))) < List.length (x.snd.fst ++ (Bool.true,
  x.snd.snd.fst, (1 : Int), ()) :: nilL (Bool × Int × Int × Unit)) - Int.toNat x_5.fst) ∧ Wr (IntKind.wrap IntKind.i64 (x_5.fst + (1 : Int)) = IntKind.wrap IntKind.i64 (x_5.fst + (1 : Int))) ∧ Wr (x.fst = x.fst) ∧ Wr
  (x.snd.fst = x.snd.fst) ∧ Wr (x.snd.snd.fst = x.snd.snd.fst) ∧ Wr ((↑(3 : Nat) : Int) = (↑(3 : Nat) : Int)) ∧ Wr (IntKind.wrap IntKind.i64 (IntKind.wrap IntKind.i64 (IntKind.wrap IntKind.i64 ((0 : Int) + (1 : Int)) + (1
  : Int)) + (1 : Int)) = IntKind.wrap IntKind.i64 (IntKind.wrap IntKind.i64 (IntKind.wrap IntKind.i64 ((0 : Int) + (1 : Int)) + (1 : Int)) + (1 : Int))) ∧ Wr ((↑(2 : Nat) : Int) = (↑(2 : Nat) : Int)) ∧ Wr (IntKind.wrap
  IntKind.i64 ((0 : Int) + (1 : Int)) = IntKind.wrap IntKind.i64 ((0 : Int) + (1 : Int))) ∧ Wr (List.set x_5.snd (Int.toNat x_5.fst) ((List.getD x_5.snd (Int.toNat x_5.fst) (Ty.zero markT)).fst, (List.getD x_5.snd
  (Int.toNat x_5.fst) (Ty.zero markT)).snd.fst, xorI IntKind.i64 (List.getD x_5.snd (Int.toNat x_5.fst) (Ty.zero markT)).snd.snd.fst (1 : Int), ()) = List.set x_5.snd (Int.toNat x_5.fst) ((List.getD x_5.snd (Int.toNat
  x_5.fst) (Ty.zero markT)).fst, (List.getD x_5.snd (Int.toNat x_5.fst) (Ty.zero markT)).snd.fst, xorI IntKind.i64 (List.getD x_5.snd (Int.toNat x_5.fst) (Ty.zero markT)).snd.snd.fst (1 : Int), ())) ∧ Wr (nilL ((Int ×
  (Int × Int × Int × Int × Int × Int × Int × Int × Unit) × Int × Unit) × Int × Int × Int × Bool × Unit) ++ x.fst = nilL ((Int × (Int × Int × Int × Int × Int × Int × Int × Int × Unit) × Int × Unit) × Int × Int × Int × Bool
  × Unit) ++ x.fst) ∧ Wr (nilL (Bool × Int × Int × Unit) ++ x.snd.fst = nilL (Bool × Int × Int × Unit) ++ x.snd.fst) ∧ Wr (x_1.snd = x_1.snd) ∧ Wr (x_4.snd = x_4.snd) ∧ Wr (x_2.snd = x_2.snd)) (Wr (x.fst = nilL ((Int ×
  (Int × Int × Int × Int × Int × Int × Int × Int × Unit) × Int × Unit) × Int × Int × Int × Bool × Unit) ++ x.fst ∧ List.length x.fst ≤ (1000000 : Nat)) ∧ Wr (Bool.true = Bool.true → x.snd.fst = nilL (Bool × Int × Int ×
  Unit) ++ x.snd.fst ∧ List.length x.snd.fst ≤ (1000000 : Nat)) ∧ Wr ((Bool.true && Bool.true) = Bool.true → True) ∧ (Bool.true && Bool.true && Bool.true, ()) = (Bool.true, ()))))))) (Wr (Decidable.decide (List.length
  x.fst * (64 : Nat) ≤ (140737488355328 : Nat)) = Bool.true) ∧ Wr ((0 : Int) ≤ x.snd.snd.fst) ∧ Wr (x.snd.snd.fst < (↑(List.length x.fst) : Int)) ∧ (Wr ((0 : Int) ≤ (0 : Int) ∧ List.length (x.fst ++ (((0 : Int), ((0 :
  Int), (0 : Int), (0 : Int), (0 : Int), (0 : Int), (0 : Int), (0 : Int), (0 : Int), ()), (0 : Int), ()), (1 : Int), (1 : Int), (0 : Int), Bool.false, ()) :: nilL ((Int × (Int × Int × Int × Int × Int × Int × Int × Int ×
  Unit) × Int × Unit) × Int × Int × Int × Bool × Unit)) = List.length (x.fst ++ (((0 : Int), ((0 : Int), (0 : Int), (0 : Int), (0 : Int), (0 : Int), (0 : Int), (0 : Int), (0 : Int), ()), (0 : Int), ()), (1 : Int), (1 :
  Int), (0 : Int), Bool.false, ()) :: nilL ((Int × (Int × Int × Int × Int × Int × Int × Int × Int × Unit) × Int × Unit) × Int × Int × Int × Bool × Unit)) ∧ List.length (x.fst ++ (((0 : Int), ((0 : Int), (0 : Int), (0 :
  Int), (0 : Int), (0 : Int), (0 : Int), (0 : Int), (0 : Int), ()), (0 : Int), ()), (1 : Int), (1 : Int), (0 : Int), Bool.false, ()) :: nilL ((Int × (Int × Int × Int × Int × Int × Int × Int × Int × Unit) × Int × Unit) ×
  Int × Int × Int × Bool × Unit)) ≤ (1000000 : Nat)) ∧ Wr ((0 : Int) = (0 : Int)) ∧ Wr (x.fst = x.fst) ∧ Wr (x.snd.fst = x.snd.fst) ∧ Wr (x.snd.snd.fst = x.snd.snd.fst) ∧ Wr ((↑(3 : Nat) : Int) = (↑(3 : Nat) : Int)) ∧ Wr
  ((0 : Int) = (0 : Int)) ∧ Wr (x.fst ++ (((0 : Int), ((0 : Int), (0 : Int), (0 : Int), (0 : Int), (0 : Int), (0 : Int), (0 : Int), (0 : Int), ()), (0 : Int), ()), (1 : Int), (1 : Int), (0 : Int), Bool.false, ()) :: nilL
  ((Int × (Int × Int × Int × Int × Int × Int × Int × Int × Unit) × Int × Unit) × Int × Int × Int × Bool × Unit) = x.fst ++ (((0 : Int), ((0 : Int), (0 : Int), (0 : Int), (0 : Int), (0 : Int), (0 : Int), (0 : Int), (0 :
  Int), ()), (0 : Int), ()), (1 : Int), (1 : Int), (0 : Int), Bool.false, ()) :: nilL ((Int × (Int × Int × Int × Int × Int × Int × Int × Int × Unit) × Int × Unit) × Int × Int × Int × Bool × Unit)) ∧ Wr (nilL ((Int × (Int
  × Int × Int × Int × Int × Int × Int × Int × Unit) × Int × Unit) × Int × Int × Int × Bool × Unit) ++ x.fst = nilL ((Int × (Int × Int × Int × Int × Int × Int × Int × Int × Unit) × Int × Unit) × Int × Int × Int × Bool ×
  Unit) ++ x.fst) ∧ Wr (nilL (Bool × Int × Int × Unit) ++ x.snd.fst = nilL (Bool × Int × Int × Unit) ++ x.snd.fst) ∧ Wr (x.snd.fst ++ (Bool.false, (↑(List.length x.fst) : Int), (1 : Int), ()) :: nilL (Bool × Int × Int ×
  Unit) = x.snd.fst ++ (Bool.false, (↑(List.length x.fst) : Int), (1 : Int), ()) :: nilL (Bool × Int × Int × Unit)) ∧ Wr (List.set x.fst (Int.toNat x.snd.snd.fst) ((List.getD x.fst (Int.toNat x.snd.snd.fst) (Ty.zero
  sockT)).fst, (List.getD x.fst (Int.toNat x.snd.snd.fst) (Ty.zero sockT)).snd.fst, (List.getD x.fst (Int.toNat x.snd.snd.fst) (Ty.zero sockT)).snd.snd.fst, IntKind.wrap IntKind.i64 ((List.getD x.fst (Int.toNat
  x.snd.snd.fst) (Ty.zero sockT)).snd.snd.snd.fst + (1 : Int)), (List.getD x.fst (Int.toNat x.snd.snd.fst) (Ty.zero sockT)).snd.snd.snd.snd) = List.set x.fst (Int.toNat x.snd.snd.fst) ((List.getD x.fst (Int.toNat
  x.snd.snd.fst) (Ty.zero sockT)).fst, (List.getD x.fst (Int.toNat x.snd.snd.fst) (Ty.zero sockT)).snd.fst, (List.getD x.fst (Int.toNat x.snd.snd.fst) (Ty.zero sockT)).snd.snd.fst, IntKind.wrap IntKind.i64 ((List.getD
  x.fst (Int.toNat x.snd.snd.fst) (Ty.zero sockT)).snd.snd.snd.fst + (1 : Int)), (List.getD x.fst (Int.toNat x.snd.snd.fst) (Ty.zero sockT)).snd.snd.snd.snd)) ∧ Wr (x.snd.fst ++ (Bool.true, x.snd.snd.fst, (1 : Int), ())
  :: nilL (Bool × Int × Int × Unit) = x.snd.fst ++ (Bool.true, x.snd.snd.fst, (1 : Int), ()) :: nilL (Bool × Int × Int × Unit)) ∧ Wr (List.set x.fst (Int.toNat x.snd.snd.fst) ((List.getD x.fst (Int.toNat x.snd.snd.fst)
  (Ty.zero sockT)).fst, (List.getD x.fst (Int.toNat x.snd.snd.fst) (Ty.zero sockT)).snd.fst, (List.getD x.fst (Int.toNat x.snd.snd.fst) (Ty.zero sockT)).snd.snd.fst, (List.getD x.fst (Int.toNat x.snd.snd.fst) (Ty.zero
  sockT)).snd.snd.snd.fst, Bool.true, ()) = List.set x.fst (Int.toNat x.snd.snd.fst) ((List.getD x.fst (Int.toNat x.snd.snd.fst) (Ty.zero sockT)).fst, (List.getD x.fst (Int.toNat x.snd.snd.fst) (Ty.zero sockT)).snd.fst,
  (List.getD x.fst (Int.toNat x.snd.snd.fst) (Ty.zero sockT)).snd.snd.fst, (List.getD x.fst (Int.toNat x.snd.snd.fst) (Ty.zero sockT)).snd.snd.snd.fst, Bool.true, ()))) ∧ ∀ (x_1 : Int × List ((Int × (Int × Int × Int × Int
  × Int × Int × Int × Int × Unit) × Int × Unit) × Int × Int × Int × Bool × Unit)), Wr ((0 : Int) ≤ x_1.fst ∧ List.length x_1.snd = List.length (x.fst ++ (((0 : Int), ((0 : Int), (0 : Int), (0 : Int), (0 : Int), (0 : Int),
  (0 : Int), (0 : Int), (0 : Int), ()), (0 : Int), ()), (1 : Int), (1 : Int), (0 : Int), Bool.false, ()) :: nilL ((Int × (Int × Int × Int × Int × Int × Int × Int × Int × Unit) × Int × Unit) × Int × Int × Int × Bool ×
  Unit)) ∧ List.length x_1.snd ≤ (1000000 : Nat)) → bcase (Decidable.decide (x_1.fst < (↑(List.length x_1.snd) : Int))) (Wr ((0 : Int) ≤ x_1.fst) ∧ Wr (x_1.fst < (↑(List.length x_1.snd) : Int)) ∧ Wr ((0 : Int) ≤ x_1.fst)
  ∧ Wr (x_1.fst < (↑(List.length x_1.snd) : Int)) ∧ Wr ((0 : Int) ≤ IntKind.wrap IntKind.i64 (x_1.fst + (1 : Int)) ∧ List.length (List.set x_1.snd (Int.toNat x_1.fst) ((List.getD x_1.snd (Int.toNat x_1.fst) (Ty.zero
  sockT)).fst, (List.getD x_1.snd (Int.toNat x_1.fst) (Ty.zero sockT)).snd.fst, (List.getD x_1.snd (Int.toNat x_1.fst) (Ty.zero sockT)).snd.snd.fst, xorI IntKind.i64 (List.getD x_1.snd (Int.toNat x_1.fst) (Ty.zero
  sockT)).snd.snd.snd.fst (1 : Int), (List.getD x_1.snd (Int.toNat x_1.fst) (Ty.zero sockT)).snd.snd.snd.snd)) = List.length (x.fst ++ (((0 : Int), ((0 : Int), (0 : Int), (0 : Int), (0 : Int), (0 : Int), (0 : Int), (0 :
  Int), (0 : Int), ()), (0 : Int), ()), (1 : Int), (1 : Int), (0 : Int), Bool.false, ()) :: nilL ((Int × (Int × Int × Int × Int × Int × Int × Int × Int × Unit) × Int × Unit) × Int × Int × Int × Bool × Unit)) ∧ List.length
  (List.set x_1.snd (Int.toNat x_1.fst) ((List.getD x_1.snd (Int.toNat x_1.fst) (Ty.zero sockT)).fst, (List.getD x_1.snd (Int.toNat x_1.fst) (Ty.zero sockT)).snd.fst, (List.getD x_1.snd (Int.toNat x_1.fst) (Ty.zero
  sockT)).snd.snd.fst, xorI IntKind.i64 (List.getD x_1.snd (Int.toNat x_1.fst) (Ty.zero sockT)).snd.snd.snd.fst (1 : Int), (List.getD x_1.snd (Int.toNat x_1.fst) (Ty.zero sockT)).snd.snd.snd.snd)) ≤ (1000000 : Nat)) ∧ Wr
  (List.length (x.fst ++ (((0 : Int), ((0 : Int), (0 : Int), (0 : Int), (0 : Int), (0 : Int), (0 : Int), (0 : Int), (0 : Int), ()), (0 : Int), ()), (1 : Int), (1 : Int), (0 : Int), Bool.false, ()) :: nilL ((Int × (Int ×
  Int × Int × Int × Int × Int × Int × Int × Unit) × Int × Unit) × Int × Int × Int × Bool × Unit)) - Int.toNat (IntKind.wrap IntKind.i64 (x_1.fst + (1 : Int))) < List.length (x.fst ++ (((0 : Int), ((0 : Int), (0 : Int), (0
  : Int), (0 : Int), (0 : Int), (0 : Int), (0 : Int), (0 : Int), ()), (0 : Int), ()), (1 : Int), (1 : Int), (0 : Int), Bool.false, ()) :: nilL ((Int × (Int × Int × Int × Int × Int × Int × Int × Int × Unit) × Int × Unit) ×
  Int × Int × Int × Bool × Unit)) - Int.toNat x_1.fst) ∧ Wr (IntKind.wrap IntKind.i64 (x_1.fst + (1 : Int)) = IntKind.wrap IntKind.i64 (x_1.fst + (1 : Int))) ∧ Wr (x.fst = x.fst) ∧ Wr (x.snd.fst = x.snd.fst) ∧ Wr
  (x.snd.snd.fst = x.snd.snd.fst) ∧ Wr ((↑(3 : Nat) : Int) = (↑(3 : Nat) : Int)) ∧ Wr ((0 : Int) = (0 : Int)) ∧ Wr (List.set x_1.snd (Int.toNat x_1.fst) ((List.getD x_1.snd (Int.toNat x_1.fst) (Ty.zero sockT)).fst,
  (List.getD x_1.snd (Int.toNat x_1.fst) (Ty.zero sockT)).snd.fst, (List.getD x_1.snd (Int.toNat x_1.fst) (Ty.zero sockT)).snd.snd.fst, xorI IntKind.i64 (List.getD x_1.snd (Int.toNat x_1.fst) (Ty.zero
  sockT)).snd.snd.snd.fst (1 : Int), (List.getD x_1.snd (Int.toNat x_1.fst) (Ty.zero sockT)).snd.snd.snd.snd) = List.set x_1.snd (Int.toNat x_1.fst) ((List.getD x_1.snd (Int.toNat x_1.fst) (Ty.zero sockT)).fst, (List.getD
  x_1.snd (Int.toNat x_1.fst) (Ty.zero sockT)).snd.fst, (List.getD x_1.snd (Int.toNat x_1.fst) (Ty.zero sockT)).snd.snd.fst, xorI IntKind.i64 (List.getD x_1.snd (Int.toNat x_1.fst) (Ty.zero sockT)).snd.snd.snd.fst (1 :
  Int), (List.getD x_1.snd (Int.toNat x_1.fst) (Ty.zero sockT)).snd.snd.snd.snd)) ∧ Wr (nilL ((Int × (Int × Int × Int × Int × Int × Int × Int × Int × Unit) × Int × Unit) × Int × Int × Int × Bool × Unit) ++ x.fst = nilL
  ((Int × (Int × Int × Int × Int × Int × Int × Int × Int × Unit) × Int × Unit) × Int × Int × Int × Bool × Unit) ++ x.fst) ∧ Wr (nilL (Bool × Int × Int × Unit) ++ x.snd.fst = nilL (Bool × Int × Int × Unit) ++ x.snd.fst) ∧
  Wr (x.snd.fst ++ (Bool.false, (↑(List.length x.fst) : Int), (1 : Int), ()) :: nilL (Bool × Int × Int × Unit) = x.snd.fst ++ (Bool.false, (↑(List.length x.fst) : Int), (1 : Int), ()) :: nilL (Bool × Int × Int × Unit)) ∧
  Wr (List.set x.fst (Int.toNat x.snd.snd.fst) ((List.getD x.fst (Int.toNat x.snd.snd.fst) (Ty.zero sockT)).fst, (List.getD x.fst (Int.toNat x.snd.snd.fst) (Ty.zero sockT)).snd.fst, (List.getD x.fst (Int.toNat
  x.snd.snd.fst) (Ty.zero sockT)).snd.snd.fst, IntKind.wrap IntKind.i64 ((List.getD x.fst (Int.toNat x.snd.snd.fst) (Ty.zero sockT)).snd.snd.snd.fst + (1 : Int)), (List.getD x.fst (Int.toNat x.snd.snd.fst) (Ty.zero
  sockT)).snd.snd.snd.snd) = List.set x.fst (Int.toNat x.snd.snd.fst) ((List.getD x.fst (Int.toNat x.snd.snd.fst) (Ty.zero sockT)).fst, (List.getD x.fst (Int.toNat x.snd.snd.fst) (Ty.zero sockT)).snd.fst, (List.getD x.fst
  (Int.toNat x.snd.snd.fst) (Ty.zero sockT)).snd.snd.fst, IntKind.wrap IntKind.i64 ((List.getD x.fst (Int.toNat x.snd.snd.fst) (Ty.zero sockT)).snd.snd.snd.fst + (1 : Int)), (List.getD x.fst (Int.toNat x.snd.snd.fst)
  (Ty.zero sockT)).snd.snd.snd.snd)) ∧ Wr (x.snd.fst ++ (Bool.true, x.snd.snd.fst, (1 : Int), ()) :: nilL (Bool × Int × Int × Unit) = x.snd.fst ++ (Bool.true, x.snd.snd.fst, (1 : Int), ()) :: nilL (Bool × Int × Int ×
  Unit)) ∧ Wr (List.set x.fst (Int.toNat x.snd.snd.fst) ((List.getD x.fst (Int.toNat x.snd.snd.fst) (Ty.zero sockT)).fst, (List.getD x.fst (Int.toNat x.snd.snd.fst) (Ty.zero sockT)).snd.fst, (List.getD x.fst (Int.toNat
  x.snd.snd.fst) (Ty.zero sockT)).snd.snd.fst, (List.getD x.fst (Int.toNat x.snd.snd.fst) (Ty.zero sockT)).snd.snd.snd.fst, Bool.true, ()) = List.set x.fst (Int.toNat x.snd.snd.fst) ((List.getD x.fst (Int.toNat
  x.snd.snd.fst) (Ty.zero sockT)).fst, (List.getD x.fst (Int.toNat x.snd.snd.fst) (Ty.zero sockT)).snd.fst, (List.getD x.fst (Int.toNat x.snd.snd.fst) (Ty.zero sockT)).snd.snd.fst, (List.getD x.fst (Int.toNat
  x.snd.snd.fst) (Ty.zero sockT)).snd.snd.snd.fst, Bool.true, ()))) ((Wr ((0 : Int) ≤ (0 : Int) ∧ List.length (List.set x.fst (Int.toNat x.snd.snd.fst) ((List.getD x.fst (Int.toNat x.snd.snd.fst) (Ty.zero sockT)).fst,
  (List.getD x.fst (Int.toNat x.snd.snd.fst) (Ty.zero sockT)).snd.fst, (List.getD x.fst (Int.toNat x.snd.snd.fst) (Ty.zero sockT)).snd.snd.fst, IntKind.wrap IntKind.i64 ((List.getD x.fst (Int.toNat x.snd.snd.fst) (Ty.zero
  sockT)).snd.snd.snd.fst + (1 : Int)), (List.getD x.fst (Int.toNat x.snd.snd.fst) (Ty.zero sockT)).snd.snd.snd.snd)) = List.length (List.set x.fst (Int.toNat x.snd.snd.fst) ((List.getD x.fst (Int.toNat x.snd.snd.fst)
  (Ty.zero sockT)).fst, (List.getD x.fst (Int.toNat x.snd.snd.fst) (Ty.zero sockT)).snd.fst, (List.getD x.fst (Int.toNat x.snd.snd.fst) (Ty.zero sockT)).snd.snd.fst, IntKind.wrap IntKind.i64 ((List.getD x.fst (Int.toNat
  x.snd.snd.fst) (Ty.zero sockT)).snd.snd.snd.fst + (1 : Int)), (List.getD x.fst (Int.toNat x.snd.snd.fst) (Ty.zero sockT)).snd.snd.snd.snd)) ∧ List.length (List.set x.fst (Int.toNat x.snd.snd.fst) ((List.getD x.fst
  (Int.toNat x.snd.snd.fst) (Ty.zero sockT)).fst, (List.getD x.fst (Int.toNat x.snd.snd.fst) (Ty.zero sockT)).snd.fst, (List.getD x.fst (Int.toNat x.snd.snd.fst) (Ty.zero sockT)).snd.snd.fst, IntKind.wrap IntKind.i64
  ((List.getD x.fst (Int.toNat x.snd.snd.fst) (Ty.zero sockT)).snd.snd.snd.fst + (1 : Int)), (List.getD x.fst (Int.toNat x.snd.snd.fst) (Ty.zero sockT)).snd.snd.snd.snd)) ≤ (1000000 : Nat)) ∧ Wr ((0 : Int) = (0 : Int)) ∧
  Wr (x.fst = x.fst) ∧ Wr (x.snd.fst = x.snd.fst) ∧ Wr (x.snd.snd.fst = x.snd.snd.fst) ∧ Wr ((↑(3 : Nat) : Int) = (↑(3 : Nat) : Int)) ∧ Wr (IntKind.wrap IntKind.i64 ((0 : Int) + (1 : Int)) = IntKind.wrap IntKind.i64 ((0 :
  Int) + (1 : Int))) ∧ Wr (List.set x.fst (Int.toNat x.snd.snd.fst) ((List.getD x.fst (Int.toNat x.snd.snd.fst) (Ty.zero sockT)).fst, (List.getD x.fst (Int.toNat x.snd.snd.fst) (Ty.zero sockT)).snd.fst, (List.getD x.fst
  (Int.toNat x.snd.snd.fst) (Ty.zero sockT)).snd.snd.fst, IntKind.wrap IntKind.i64 ((List.getD x.fst (Int.toNat x.snd.snd.fst) (Ty.zero sockT)).snd.snd.snd.fst + (1 : Int)), (List.getD x.fst (Int.toNat x.snd.snd.fst)
  (Ty.zero sockT)).snd.snd.snd.snd) = List.set x.fst (Int.toNat x.snd.snd.fst) ((List.getD x.fst (Int.toNat x.snd.snd.fst) (Ty.zero sockT)).fst, (List.getD x.fst (Int.toNat x.snd.snd.fst) (Ty.zero sockT)).snd.fst,
  (List.getD x.fst (Int.toNat x.snd.snd.fst) (Ty.zero sockT)).snd.snd.fst, IntKind.wrap IntKind.i64 ((List.getD x.fst (Int.toNat x.snd.snd.fst) (Ty.zero sockT)).snd.snd.snd.fst + (1 : Int)), (List.getD x.fst (Int.toNat
  x.snd.snd.fst) (Ty.zero sockT)).snd.snd.snd.snd)) ∧ Wr (nilL ((Int × (Int × Int × Int × Int × Int × Int × Int × Int × Unit) × Int × Unit) × Int × Int × Int × Bool × Unit) ++ x.fst = nilL ((Int × (Int × Int × Int × Int ×
  Int × Int × Int × Int × Unit) × Int × Unit) × Int × Int × Int × Bool × Unit) ++ x.fst) ∧ Wr (nilL (Bool × Int × Int × Unit) ++ x.snd.fst = nilL (Bool × Int × Int × Unit) ++ x.snd.fst) ∧ Wr (x_1.snd = x_1.snd) ∧ Wr
  (x.snd.fst ++ (Bool.false, (↑(List.length x.fst) : Int), (1 : Int), ()) :: nilL (Bool × Int × Int × Unit) = x.snd.fst ++ (Bool.false, (↑(List.length x.fst) : Int), (1 : Int), ()) :: nilL (Bool × Int × Int × Unit)) ∧ Wr
  (x.snd.fst ++ (Bool.true, x.snd.snd.fst, (1 : Int), ()) :: nilL (Bool × Int × Int × Unit) = x.snd.fst ++ (Bool.true, x.snd.snd.fst, (1 : Int), ()) :: nilL (Bool × Int × Int × Unit)) ∧ Wr (List.set x.fst (Int.toNat
  x.snd.snd.fst) ((List.getD x.fst (Int.toNat x.snd.snd.fst) (Ty.zero sockT)).fst, (List.getD x.fst (Int.toNat x.snd.snd.fst) (Ty.zero sockT)).snd.fst, (List.getD x.fst (Int.toNat x.snd.snd.fst) (Ty.zero
  sockT)).snd.snd.fst, (List.getD x.fst (Int.toNat x.snd.snd.fst) (Ty.zero sockT)).snd.snd.snd.fst, Bool.true, ()) = List.set x.fst (Int.toNat x.snd.snd.fst) ((List.getD x.fst (Int.toNat x.snd.snd.fst) (Ty.zero
  sockT)).fst, (List.getD x.fst (Int.toNat x.snd.snd.fst) (Ty.zero sockT)).snd.fst, (List.getD x.fst (Int.toNat x.snd.snd.fst) (Ty.zero sockT)).snd.snd.fst, (List.getD x.fst (Int.toNat x.snd.snd.fst) (Ty.zero
  sockT)).snd.snd.snd.fst, Bool.true, ()))) ∧ ∀ (x_2 : Int × List ((Int × (Int × Int × Int × Int × Int × Int × Int × Int × Unit) × Int × Unit) × Int × Int × Int × Bool × Unit)), Wr ((0 : Int) ≤ x_2.fst ∧ List.length
  x_2.snd = List.length (List.set x.fst (Int.toNat x.snd.snd.fst) ((List.getD x.fst (Int.toNat x.snd.snd.fst) (Ty.zero sockT)).fst, (List.getD x.fst (Int.toNat x.snd.snd.fst) (Ty.zero sockT)).snd.fst, (List.getD x.fst
  (Int.toNat x.snd.snd.fst) (Ty.zero sockT)).snd.snd.fst, IntKind.wrap IntKind.i64 ((List.getD x.fst (Int.toNat x.snd.snd.fst) (Ty.zero sockT)).snd.snd.snd.fst + (1 : Int)), (List.getD x.fst (Int.toNat x.snd.snd.fst)
  (Ty.zero sockT)).snd.snd.snd.snd)) ∧ List.length x_2.snd ≤ (1000000 : Nat)) → bcase (Decidable.decide (x_2.fst < (↑(List.length x_2.snd) : Int))) (Wr ((0 : Int) ≤ x_2.fst) ∧ Wr (x_2.fst < (↑(List.length x_2.snd) : Int))
  ∧ Wr ((0 : Int) ≤ x_2.fst) ∧ Wr (x_2.fst < (↑(List.length x_2.snd) : Int)) ∧ Wr ((0 : Int) ≤ IntKind.wrap IntKind.i64 (x_2.fst + (1 : Int)) ∧ List.length (List.set x_2.snd (Int.toNat x_2.fst) ((List.getD x_2.snd
  (Int.toNat x_2.fst) (Ty.zero sockT)).fst, (List.getD x_2.snd (Int.toNat x_2.fst) (Ty.zero sockT)).snd.fst, (List.getD x_2.snd (Int.toNat x_2.fst) (Ty.zero sockT)).snd.snd.fst, xorI IntKind.i64 (List.getD x_2.snd
  (Int.toNat x_2.fst) (Ty.zero sockT)).snd.snd.snd.fst (1 : Int), (List.getD x_2.snd (Int.toNat x_2.fst) (Ty.zero sockT)).snd.snd.snd.snd)) = List.length (List.set x.fst (Int.toNat x.snd.snd.fst) ((List.getD x.fst
  (Int.toNat x.snd.snd.fst) (Ty.zero sockT)).fst, (List.getD x.fst (Int.toNat x.snd.snd.fst) (Ty.zero sockT)).snd.fst, (List.getD x.fst (Int.toNat x.snd.snd.fst) (Ty.zero sockT)).snd.snd.fst, IntKind.wrap IntKind.i64
  ((List.getD x.fst (Int.toNat x.snd.snd.fst) (Ty.zero sockT)).snd.snd.snd.fst + (1 : Int)), (List.getD x.fst (Int.toNat x.snd.snd.fst) (Ty.zero sockT)).snd.snd.snd.snd)) ∧ List.length (List.set x_2.snd (Int.toNat
  x_2.fst) ((List.getD x_2.snd (Int.toNat x_2.fst) (Ty.zero sockT)).fst, (List.getD x_2.snd (Int.toNat x_2.fst) (Ty.zero sockT)).snd.fst, (List.getD x_2.snd (Int.toNat x_2.fst) (Ty.zero sockT)).snd.snd.fst, xorI
  IntKind.i64 (List.getD x_2.snd (Int.toNat x_2.fst) (Ty.zero sockT)).snd.snd.snd.fst (1 : Int), (List.getD x_2.snd (Int.toNat x_2.fst) (Ty.zero sockT)).snd.snd.snd.snd)) ≤ (1000000 : Nat)) ∧ Wr (List.length (List.set
  x.fst (Int.toNat x.snd.snd.fst) ((List.getD x.fst (Int.toNat x.snd.snd.fst) (Ty.zero sockT)).fst, (List.getD x.fst (Int.toNat x.snd.snd.fst) (Ty.zero sockT)).snd.fst, (List.getD x.fst (Int.toNat x.snd.snd.fst) (Ty.zero
  sockT)).snd.snd.fst, IntKind.wrap IntKind.i64 ((List.getD x.fst (Int.toNat x.snd.snd.fst) (Ty.zero sockT)).snd.snd.snd.fst + (1 : Int)), (List.getD x.fst (Int.toNat x.snd.snd.fst) (Ty.zero sockT)).snd.snd.snd.snd)) -
  Int.toNat (IntKind.wrap IntKind.i64 (x_2.fst + (1 : Int))) < List.length (List.set x.fst (Int.toNat x.snd.snd.fst) ((List.getD x.fst (Int.toNat x.snd.snd.fst) (Ty.zero sockT)).fst, (List.getD x.fst (Int.toNat
  x.snd.snd.fst) (Ty.zero sockT)).snd.fst, (List.getD x.fst (Int.toNat x.snd.snd.fst) (Ty.zero sockT)).snd.snd.fst, IntKind.wrap IntKind.i64 ((List.getD x.fst (Int.toNat x.snd.snd.fst) (Ty.zero sockT)).snd.snd.snd.fst +
  (1 : Int)), (List.getD x.fst (Int.toNat x.snd.snd.fst) (Ty.zero sockT)).snd.snd.snd.snd)) - Int.toNat x_2.fst) ∧ Wr (IntKind.wrap IntKind.i64 (x_2.fst + (1 : Int)) = IntKind.wrap IntKind.i64 (x_2.fst + (1 : Int))) ∧ Wr
  (x.fst = x.fst) ∧ Wr (x.snd.fst = x.snd.fst) ∧ Wr (x.snd.snd.fst = x.snd.snd.fst) ∧ Wr ((↑(3 : Nat) : Int) = (↑(3 : Nat) : Int)) ∧ Wr (IntKind.wrap IntKind.i64 ((0 : Int) + (1 : Int)) = IntKind.wrap IntKind.i64 ((0 :
  Int) + (1 : Int))) ∧ Wr (List.set x_2.snd (Int.toNat x_2.fst) ((List.getD x_2.snd (Int.toNat x_2.fst) (Ty.zero sockT)).fst, (List.getD x_2.snd (Int.toNat x_2.fst) (Ty.zero sockT)).snd.fst, (List.getD x_2.snd (Int.toNat
  x_2.fst) (Ty.zero sockT)).snd.snd.fst, xorI IntKind.i64 (List.getD x_2.snd (Int.toNat x_2.fst) (Ty.zero sockT)).snd.snd.snd.fst (1 : Int), (List.getD x_2.snd (Int.toNat x_2.fst) (Ty.zero sockT)).snd.snd.snd.snd) =
  List.set x_2.snd (Int.toNat x_2.fst) ((List.getD x_2.snd (Int.toNat x_2.fst) (Ty.zero sockT)).fst, (List.getD x_2.snd (Int.toNat x_2.fst) (Ty.zero sockT)).snd.fst, (List.getD x_2.snd (Int.toNat x_2.fst) (Ty.zero
  sockT)).snd.snd.fst, xorI IntKind.i64 (List.getD x_2.snd (Int.toNat x_2.fst) (Ty.zero sockT)).snd.snd.snd.fst (1 : Int), (List.getD x_2.snd (Int.toNat x_2.fst) (Ty.zero sockT)).snd.snd.snd.snd)) ∧ Wr (nilL ((Int × (Int
  × Int × Int × Int × Int × Int × Int × Int × Unit) × Int × Unit) × Int × Int × Int × Bool × Unit) ++ x.fst = nilL ((Int × (Int × Int × Int × Int × Int × Int × Int × Int × Unit) × Int × Unit) × Int × Int × Int × Bool ×
  Unit) ++ x.fst) ∧ Wr (nilL (Bool × Int × Int × Unit) ++ x.snd.fst = nilL (Bool × Int × Int × Unit) ++ x.snd.fst) ∧ Wr (x_1.snd = x_1.snd) ∧ Wr (x.snd.fst ++ (Bool.false, (↑(List.length x.fst) : Int), (1 : Int), ()) ::
  nilL (Bool × Int × Int × Unit) = x.snd.fst ++ (Bool.false, (↑(List.length x.fst) : Int), (1 : Int), ()) :: nilL (Bool × Int × Int × Unit)) ∧ Wr (x.snd.fst ++ (Bool.true, x.snd.snd.fst, (1 : Int), ()) :: nilL (Bool × Int
  × Int × Unit) = x.snd.fst ++ (Bool.true, x.snd.snd.fst, (1 : Int), ()) :: nilL (Bool × Int × Int × Unit)) ∧ Wr (List.set x.fst (Int.toNat x.snd.snd.fst) ((List.getD x.fst (Int.toNat x.snd.snd.fst) (Ty.zero sockT)).fst,
  (List.getD x.fst (Int.toNat x.snd.snd.fst) (Ty.zero sockT)).snd.fst, (List.getD x.fst (Int.toNat x.snd.snd.fst) (Ty.zero sockT)).snd.snd.fst, (List.getD x.fst (Int.toNat x.snd.snd.fst) (Ty.zero sockT)).snd.snd.snd.fst,
  Bool.true, ()) = List.set x.fst (Int.toNat x.snd.snd.fst) ((List.getD x.fst (Int.toNat x.snd.snd.fst) (Ty.zero sockT)).fst, (List.getD x.fst (Int.toNat x.snd.snd.fst) (Ty.zero sockT)).snd.fst, (List.getD x.fst
  (Int.toNat x.snd.snd.fst) (Ty.zero sockT)).snd.snd.fst, (List.getD x.fst (Int.toNat x.snd.snd.fst) (Ty.zero sockT)).snd.snd.snd.fst, Bool.true, ()))) ((Wr ((0 : Int) ≤ (0 : Int) ∧ List.length (List.set x.fst (Int.toNat
  x.snd.snd.fst) ((List.getD x.fst (Int.toNat x.snd.snd.fst) (Ty.zero sockT)).fst, (List.getD x.fst (Int.toNat x.snd.snd.fst) (Ty.zero sockT)).snd.fst, (List.getD x.fst (Int.toNat x.snd.snd.fst) (Ty.zero
  sockT)).snd.snd.fst, (List.getD x.fst (Int.toNat x.snd.snd.fst) (Ty.zero sockT)).snd.snd.snd.fst, Bool.true, ())) = List.length (List.set x.fst (Int.toNat x.snd.snd.fst) ((List.getD x.fst (Int.toNat x.snd.snd.fst)
  (Ty.zero sockT)).fst, (List.getD x.fst (Int.toNat x.snd.snd.fst) (Ty.zero sockT)).snd.fst, (List.getD x.fst (Int.toNat x.snd.snd.fst) (Ty.zero sockT)).snd.snd.fst, (List.getD x.fst (Int.toNat x.snd.snd.fst) (Ty.zero
  sockT)).snd.snd.snd.fst, Bool.true, ())) ∧ List.length (List.set x.fst (Int.toNat x.snd.snd.fst) ((List.getD x.fst (Int.toNat x.snd.snd.fst) (Ty.zero sockT)).fst, (List.getD x.fst (Int.toNat x.snd.snd.fst) (Ty.zero
  sockT)).snd.fst, (List.getD x.fst (Int.toNat x.snd.snd.fst) (Ty.zero sockT)).snd.snd.fst, (List.getD x.fst (Int.toNat x.snd.snd.fst) (Ty.zero sockT)).snd.snd.snd.fst, Bool.true, ())) ≤ (1000000 : Nat)) ∧ Wr ((0 : Int) =
  (0 : Int)) ∧ Wr (x.fst = x.fst) ∧ Wr (x.snd.fst = x.snd.fst) ∧ Wr (x.snd.snd.fst = x.snd.snd.fst) ∧ Wr ((↑(3 : Nat) : Int) = (↑(3 : Nat) : Int)) ∧ Wr (IntKind.wrap IntKind.i64 (IntKind.wrap IntKind.i64 ((0 : Int) + (1 :
  Int)) + (1 : Int)) = IntKind.wrap IntKind.i64 (IntKind.wrap IntKind.i64 ((0 : Int) + (1 : Int)) + (1 : Int))) ∧ Wr (List.set x.fst (Int.toNat x.snd.snd.fst) ((List.getD x.fst (Int.toNat x.snd.snd.fst) (Ty.zero
  sockT)).fst, (List.getD x.fst (Int.toNat x.snd.snd.fst) (Ty.zero sockT)).snd.fst, (List.getD x.fst (Int.toNat x.snd.snd.fst) (Ty.zero sockT)).snd.snd.fst, (List.getD x.fst (Int.toNat x.snd.snd.fst) (Ty.zero
  sockT)).snd.snd.snd.fst, Bool.true, ()) = List.set x.fst (Int.toNat x.snd.snd.fst) ((List.getD x.fst (Int.toNat x.snd.snd.fst) (Ty.zero sockT)).fst, (List.getD x.fst (Int.toNat x.snd.snd.fst) (Ty.zero sockT)).snd.fst,
  (List.getD x.fst (Int.toNat x.snd.snd.fst) (Ty.zero sockT)).snd.snd.fst, (List.getD x.fst (Int.toNat x.snd.snd.fst) (Ty.zero sockT)).snd.snd.snd.fst, Bool.true, ())) ∧ Wr (nilL ((Int × (Int × Int × Int × Int × Int × Int
  × Int × Int × Unit) × Int × Unit) × Int × Int × Int × Bool × Unit) ++ x.fst = nilL ((Int × (Int × Int × Int × Int × Int × Int × Int × Int × Unit) × Int × Unit) × Int × Int × Int × Bool × Unit) ++ x.fst) ∧ Wr (nilL (Bool
  × Int × Int × Unit) ++ x.snd.fst = nilL (Bool × Int × Int × Unit) ++ x.snd.fst) ∧ Wr (x_1.snd = x_1.snd) ∧ Wr (x.snd.fst ++ (Bool.false, (↑(List.length x.fst) : Int), (1 : Int), ()) :: nilL (Bool × Int × Int × Unit) =
  x.snd.fst ++ (Bool.false, (↑(List.length x.fst) : Int), (1 : Int), ()) :: nilL (Bool × Int × Int × Unit)) ∧ Wr (x_2.snd = x_2.snd) ∧ Wr (x.snd.fst ++ (Bool.true, x.snd.snd.fst, (1 : Int), ()) :: nilL (Bool × Int × Int ×
  Unit) = x.snd.fst ++ (Bool.true, x.snd.snd.fst, (1 : Int), ()) :: nilL (Bool × Int × Int × Unit))) ∧ ∀ (x_3 : Int × List ((Int × (Int × Int × Int × Int × Int × Int × Int × Int × Unit) × Int × Unit) × Int × Int × Int ×
  Bool × Unit)), Wr ((0 : Int) ≤ x_3.fst ∧ List.length x_3.snd = List.length (List.set x.fst (Int.toNat x.snd.snd.fst) ((List.getD x.fst (Int.toNat x.snd.snd.fst) (Ty.zero sockT)).fst, (List.getD x.fst (Int.toNat
  x.snd.snd.fst) (Ty.zero sockT)).snd.fst, (List.getD x.fst (Int.toNat x.snd.snd.fst) (Ty.zero sockT)).snd.snd.fst, (List.getD x.fst (Int.toNat x.snd.snd.fst) (Ty.zero sockT)).snd.snd.snd.fst, Bool.true, ())) ∧
  List.length x_3.snd ≤ (1000000 : Nat)) → bcase (Decidable.decide (x_3.fst < (↑(List.length x_3.snd) : Int))) (Wr ((0 : Int) ≤ x_3.fst) ∧ Wr (x_3.fst < (↑(List.length x_3.snd) : Int)) ∧ Wr ((0 : Int) ≤ x_3.fst) ∧ Wr
  (x_3.fst < (↑(List.length x_3.snd) : Int)) ∧ Wr ((0 : Int) ≤ IntKind.wrap IntKind.i64 (x_3.fst + (1 : Int)) ∧ List.length (List.set x_3.snd (Int.toNat x_3.fst) ((List.getD x_3.snd (Int.toNat x_3.fst) (Ty.zero
  sockT)).fst, (List.getD x_3.snd (Int.toNat x_3.fst) (Ty.zero sockT)).snd.fst, (List.getD x_3.snd (Int.toNat x_3.fst) (Ty.zero sockT)).snd.snd.fst, xorI IntKind.i64 (List.getD x_3.snd (Int.toNat x_3.fst) (Ty.zero
  sockT)).snd.snd.snd.fst (1 : Int), (List.getD x_3.snd (Int.toNat x_3.fst) (Ty.zero sockT)).snd.snd.snd.snd)) = List.length (List.set x.fst (Int.toNat x.snd.snd.fst) ((List.getD x.fst (Int.toNat x.snd.snd.fst) (Ty.zero
  sockT)).fst, (List.getD x.fst (Int.toNat x.snd.snd.fst) (Ty.zero sockT)).snd.fst, (List.getD x.fst (Int.toNat x.snd.snd.fst) (Ty.zero sockT)).snd.snd.fst, (List.getD x.fst (Int.toNat x.snd.snd.fst) (Ty.zero
  sockT)).snd.snd.snd.fst, Bool.true, ())) ∧ List.length (List.set x_3.snd (Int.toNat x_3.fst) ((List.getD x_3.snd (Int.toNat x_3.fst) (Ty.zero sockT)).fst, (List.getD x_3.snd (Int.toNat x_3.fst) (Ty.zero sockT)).snd.fst,
  (List.getD x_3.snd (Int.toNat x_3.fst) (Ty.zero sockT)).snd.snd.fst, xorI IntKind.i64 (List.getD x_3.snd (Int.toNat x_3.fst) (Ty.zero sockT)).snd.snd.snd.fst (1 : Int), (List.getD x_3.snd (Int.toNat x_3.fst) (Ty.zero
  sockT)).snd.snd.snd.snd)) ≤ (1000000 : Nat)) ∧ Wr (List.length (List.set x.fst (Int.toNat x.snd.snd.fst) ((List.getD x.fst (Int.toNat x.snd.snd.fst) (Ty.zero sockT)).fst, (List.getD x.fst (Int.toNat x.snd.snd.fst)
  (Ty.zero sockT)).snd.fst, (List.getD x.fst (Int.toNat x.snd.snd.fst) (Ty.zero sockT)).snd.snd.fst, (List.getD x.fst (Int.toNat x.snd.snd.fst) (Ty.zero sockT)).snd.snd.snd.fst, Bool.true, ())) - Int.toNat (IntKind.wrap
  IntKind.i64 (x_3.fst + (1 : Int))) < List.length (List.set x.fst (Int.toNat x.snd.snd.fst) ((List.getD x.fst (Int.toNat x.snd.snd.fst) (Ty.zero sockT)).fst, (List.getD x.fst (Int.toNat x.snd.snd.fst) (Ty.zero
  sockT)).snd.fst, (List.getD x.fst (Int.toNat x.snd.snd.fst) (Ty.zero sockT)).snd.snd.fst, (List.getD x.fst (Int.toNat x.snd.snd.fst) (Ty.zero sockT)).snd.snd.snd.fst, Bool.true, ())) - Int.toNat x_3.fst) ∧ Wr
  (IntKind.wrap IntKind.i64 (x_3.fst + (1 : Int)) = IntKind.wrap IntKind.i64 (x_3.fst + (1 : Int))) ∧ Wr (x.fst = x.fst) ∧ Wr (x.snd.fst = x.snd.fst) ∧ Wr (x.snd.snd.fst = x.snd.snd.fst) ∧ Wr ((↑(3 : Nat) : Int) = (↑(3 :
  Nat) : Int)) ∧ Wr (IntKind.wrap IntKind.i64 (IntKind.wrap IntKind.i64 ((0 : Int) + (1 : Int)) + (1 : Int)) = IntKind.wrap IntKind.i64 (IntKind.wrap IntKind.i64 ((0 : Int) + (1 : Int)) + (1 : Int))) ∧ Wr (List.set
  x_3.snd (Int.toNat x_3.fst) ((List.getD x_3.snd (Int.toNat x_3.fst) (Ty.zero sockT)).fst, (List.getD x_3.snd (Int.toNat x_3.fst) (Ty.zero sockT)).snd.fst, (List.getD x_3.snd (Int.toNat x_3.fst) (Ty.zero
  sockT)).snd.snd.fst, xorI IntKind.i64 (List.getD x_3.snd (Int.toNat x_3.fst) (Ty.zero sockT)).snd.snd.snd.fst (1 : Int), (List.getD x_3.snd (Int.toNat x_3.fst) (Ty.zero sockT)).snd.snd.snd.snd) = List.set x_3.snd
  (Int.toNat x_3.fst) ((List.getD x_3.snd (Int.toNat x_3.fst) (Ty.zero sockT)).fst, (List.getD x_3.snd (Int.toNat x_3.fst) (Ty.zero sockT)).snd.fst, (List.getD x_3.snd (Int.toNat x_3.fst) (Ty.zero sockT)).snd.snd.fst,
  xorI IntKind.i64 (List.getD x_3.snd (Int.toNat x_3.fst) (Ty.zero sockT)).snd.snd.snd.fst (1 : Int), (List.getD x_3.snd (Int.toNat x_3.fst) (Ty.zero sockT)).snd.snd.snd.snd)) ∧ Wr (nilL ((Int × (Int × Int × Int × Int ×
  Int × Int × Int × Int × Unit) × Int × Unit) × Int × Int × Int × Bool × Unit) ++ x.fst = nilL ((Int × (Int × Int × Int × Int × Int × Int × Int × Int × Unit) × Int × Unit) × Int × Int × Int × Bool × Unit) ++ x.fst) ∧ Wr
  (nilL (Bool × Int × Int × Unit) ++ x.snd.fst = nilL (Bool × Int × Int × Unit) ++ x.snd.fst) ∧ Wr (x_1.snd = x_1.snd) ∧ Wr (x.snd.fst ++ (Bool.false, (↑(List.length x.fst) : Int), (1 : Int), ()) :: nilL (Bool × Int × Int
  × Unit) = x.snd.fst ++ (Bool.false, (↑(List.length x.fst) : Int), (1 : Int), ()) :: nilL (Bool × Int × Int × Unit)) ∧ Wr (x_2.snd = x_2.snd) ∧ Wr (x.snd.fst ++ (Bool.true, x.snd.snd.fst, (1 : Int), ()) :: nilL (Bool ×
  Int × Int × Unit) = x.snd.fst ++ (Bool.true, x.snd.snd.fst, (1 : Int), ()) :: nilL (Bool × Int × Int × Unit))) ((Wr ((0 : Int) ≤ (0 : Int) ∧ List.length (x.snd.fst ++ (Bool.false, (↑(List.length x.fst) : Int), (1 :
  Int), ()) :: nilL (Bool × Int × Int × Unit)) = List.length (x.snd.fst ++ (Bool.false, (↑(List.length x.fst) : Int), (1 : Int), ()) :: nilL (Bool × Int × Int × Unit)) ∧ List.length (x.snd.fst ++ (Bool.false,
  (↑(List.length x.fst) : Int), (1 : Int), ()) :: nilL (Bool × Int × Int × Unit)) ≤ (1000000 : Nat)) ∧ Wr ((0 : Int) = (0 : Int)) ∧ Wr (x.fst = x.fst) ∧ Wr (x.snd.fst = x.snd.fst) ∧ Wr (x.snd.snd.fst = x.snd.snd.fst) ∧ Wr
  ((↑(3 : Nat) : Int) = (↑(3 : Nat) : Int)) ∧ Wr (IntKind.wrap IntKind.i64 (IntKind.wrap IntKind.i64 (IntKind.wrap IntKind.i64 ((0 : Int) + (1 : Int)) + (1 : Int)) + (1 : Int)) = IntKind.wrap IntKind.i64 (IntKind.wrap
  IntKind.i64 (IntKind.wrap IntKind.i64 ((0 : Int) + (1 : Int)) + (1 : Int)) + (1 : Int))) ∧ Wr ((↑(2 : Nat) : Int) = (↑(2 : Nat) : Int)) ∧ Wr ((0 : Int) = (0 : Int)) ∧ Wr (x.snd.fst ++ (Bool.false, (↑(List.length x.fst)
  : Int), (1 : Int), ()) :: nilL (Bool × Int × Int × Unit) = x.snd.fst ++ (Bool.false, (↑(List.length x.fst) : Int), (1 : Int), ()) :: nilL (Bool × Int × Int × Unit)) ∧ Wr (nilL ((Int × (Int × Int × Int × Int × Int × Int
  × Int × Int × Unit) × Int × Unit) × Int × Int × Int × Bool × Unit) ++ x.fst = nilL ((Int × (Int × Int × Int × Int × Int × Int × Int × Int × Unit) × Int × Unit) × Int × Int × Int × Bool × Unit) ++ x.fst) ∧ Wr (nilL (Bool
  × Int × Int × Unit) ++ x.snd.fst = nilL (Bool × Int × Int × Unit) ++ x.snd.fst) ∧ Wr (x_1.snd = x_1.snd) ∧ Wr (x_2.snd = x_2.snd) ∧ Wr (x.snd.fst ++ (Bool.true, x.snd.snd.fst, (1 : Int), ()) :: nilL (Bool × Int × Int ×
  Unit) = x.snd.fst ++ (Bool.true, x.snd.snd.fst, (1 : Int), ()) :: nilL (Bool × Int × Int × Unit)) ∧ Wr (x_3.snd = x_3.snd)) ∧ ∀ (x_4 : Int × List (Bool × Int × Int × Unit)), Wr ((0 : Int) ≤ x_4.fst ∧ List.length x_4.snd
  = List.length (x.snd.fst ++ (Bool.false, (↑(List.length x.fst) : Int), (1 : Int), ()) :: nilL (Bool × Int × Int × Unit)) ∧ List.length x_4.snd ≤ (1000000 : Nat)) → bcase (Decidable.decide (x_4.fst < (↑(List.length
  x_4.snd) : Int))) (Wr ((0 : Int) ≤ x_4.fst) ∧ Wr (x_4.fst < (↑(List.length x_4.snd) : Int)) ∧ Wr ((0 : Int) ≤ x_4.fst) ∧ Wr (x_4.fst < (↑(List.length x_4.snd) : Int)) ∧ Wr ((0 : Int) ≤ IntKind.wrap IntKind.i64 (x_4.fst
  + (1 : Int)) ∧ List.length (List.set x_4.snd (Int.toNat x_4.fst) ((List.getD x_4.snd (Int.toNat x_4.fst) (Ty.zero markT)).fst, (List.getD x_4.snd (Int.toNat x_4.fst) (Ty.zero markT)).snd.fst, xorI IntKind.i64 (List.getD
  x_4.snd (Int.toNat x_4.fst) (Ty.zero markT)).snd.snd.fst (1 : Int), ())) = List.length (x.snd.fst ++ (Bool.false, (↑(List.length x.fst) : Int), (1 : Int), ()) :: nilL (Bool × Int × Int × Unit)) ∧ List.length (List.set
  x_4.snd (Int.toNat x_4.fst) ((List.getD x_4.snd (Int.toNat x_4.fst) (Ty.zero markT)).fst, (List.getD x_4.snd (Int.toNat x_4.fst) (Ty.zero markT)).snd.fst, xorI IntKind.i64 (List.getD x_4.snd (Int.toNat x_4.fst) (Ty.zero
  markT)).snd.snd.fst (1 : Int), ())) ≤ (1000000 : Nat)) ∧ Wr (List.length (x.snd.fst ++ (Bool.false, (↑(List.length x.fst) : Int), (1 : Int), ()) :: nilL (Bool × Int × Int × Unit)) - Int.toNat (IntKind.wrap IntKind.i64
  (x_4.fst + (1 : Int))) < List.length (x.snd.fst ++ (Bool.false, (↑(List.length x.fst) : Int), (1 : Int), ()) :: nilL (Bool × Int × Int × Unit)) - Int.toNat x_4.fst) ∧ Wr (IntKind.wrap IntKind.i64 (x_4.fst + (1 : Int)) =
  IntKind.wrap IntKind.i64 (x_4.fst + (1 : Int))) ∧ Wr (x.fst = x.fst) ∧ Wr (x.snd.fst = x.snd.fst) ∧ Wr (x.snd.snd.fst = x.snd.snd.fst) ∧ Wr ((↑(3 : Nat) : Int) = (↑(3 : Nat) : Int)) ∧ Wr (IntKind.wrap IntKind.i64
  (IntKind.wrap IntKind.i64 (IntKind.wrap IntKind.i64 ((0 : Int) + (1 : Int)) + (1 : Int)) + (1 : Int)) = IntKind.wrap IntKind.i64 (IntKind.wrap IntKind.i64 (IntKind.wrap IntKind.i64 ((0 : Int) + (1 : Int)) + (1 : Int)) +
  (1 : Int))) ∧ Wr ((↑(2 : Nat) : Int) = (↑(2 : Nat) : Int)) ∧ Wr ((0 : Int) = (0 : Int)) ∧ Wr (List.set x_4.snd (Int.toNat x_4.fst) ((List.getD x_4.snd (Int.toNat x_4.fst) (Ty.zero markT)).fst, (List.getD x_4.snd
  (Int.toNat x_4.fst) (Ty.zero markT)).snd.fst, xorI IntKind.i64 (List.getD x_4.snd (Int.toNat x_4.fst) (Ty.zero markT)).snd.snd.fst (1 : Int), ()) = List.set x_4.snd (Int.toNat x_4.fst) ((List.getD x_4.snd (Int.toNat
  x_4.fst) (Ty.zero markT)).fst, (List.getD x_4.snd (Int.toNat x_4.fst) (Ty.zero markT)).snd.fst, xorI IntKind.i64 (List.getD x_4.snd (Int.toNat x_4.fst) (Ty.zero markT)).snd.snd.fst (1 : Int), ())) ∧ Wr (nilL ((Int ×
  (Int × Int × Int × Int × Int × Int × Int × Int × Unit) × Int × Unit) × Int × Int × Int × Bool × Unit) ++ x.fst = nilL ((Int × (Int × Int × Int × Int × Int × Int × Int × Int × Unit) × Int × Unit) × Int × Int × Int × Bool
  × Unit) ++ x.fst) ∧ Wr (nilL (Bool × Int × Int × Unit) ++ x.snd.fst = nilL (Bool × Int × Int × Unit) ++ x.snd.fst) ∧ Wr (x_1.snd = x_1.snd) ∧ Wr (x_2.snd = x_2.snd) ∧ Wr (x.snd.fst ++ (Bool.true, x.snd.snd.fst, (1 :
  Int), ()) :: nilL (Bool × Int × Int × Unit) = x.snd.fst ++ (Bool.true, x.snd.snd.fst, (1 : Int), ()) :: nilL (Bool × Int × Int × Unit)) ∧ Wr (x_3.snd = x_3.snd)) ((Wr ((0 : Int) ≤ (0 : Int) ∧ List.length (x.snd.fst ++
  (Bool.true, x.snd.snd.fst, (1 : Int), ()) :: nilL (Bool × Int × Int × Unit)) = List.length (x.snd.fst ++ (Bool.true, x.snd.snd.fst, (1 : Int), ()) :: nilL (Bool × Int × Int × Unit)) ∧ List.length (x.snd.fst ++
  (Bool.true, x.snd.snd.fst, (1 : Int), ()) :: nilL (Bool × Int × Int × Unit)) ≤ (1000000 : Nat)) ∧ Wr ((0 : Int) = (0 : Int)) ∧ Wr (x.fst = x.fst) ∧ Wr (x.snd.fst = x.snd.fst) ∧ Wr (x.snd.snd.fst = x.snd.snd.fst) ∧ Wr
  ((↑(3 : Nat) : Int) = (↑(3 : Nat) : Int)) ∧ Wr (IntKind.wrap IntKind.i64 (IntKind.wrap IntKind.i64 (IntKind.wrap IntKind.i64 ((0 : Int) + (1 : Int)) + (1 : Int)) + (1 : Int)) = IntKind.wrap IntKind.i64 (IntKind.wrap
  IntKind.i64 (IntKind.wrap IntKind.i64 ((0 : Int) + (1 : Int)) + (1 : Int)) + (1 : Int))) ∧ Wr ((↑(2 : Nat) : Int) = (↑(2 : Nat) : Int)) ∧ Wr (IntKind.wrap IntKind.i64 ((0 : Int) + (1 : Int)) = IntKind.wrap IntKind.i64
  ((0 : Int) + (1 : Int))) ∧ Wr (x.snd.fst ++ (Bool.true, x.snd.snd.fst, (1 : Int), ()) :: nilL (Bool × Int × Int × Unit) = x.snd.fst ++ (Bool.true, x.snd.snd.fst, (1 : Int), ()) :: nilL (Bool × Int × Int × Unit)) ∧ Wr
  (nilL ((Int × (Int × Int × Int × Int × Int × Int × Int × Int × Unit) × Int × Unit) × Int × Int × Int × Bool × Unit) ++ x.fst = nilL ((Int × (Int × Int × Int × Int × Int × Int × Int × Int × Unit) × Int × Unit) × Int ×
  Int × Int × Bool × Unit) ++ x.fst) ∧ Wr (nilL (Bool × Int × Int × Unit) ++ x.snd.fst = nilL (Bool × Int × Int × Unit) ++ x.snd.fst) ∧ Wr (x_1.snd = x_1.snd) ∧ Wr (x_4.snd = x_4.snd) ∧ Wr (x_2.snd = x_2.snd) ∧ Wr
  (x_3.snd = x_3.snd)) ∧ ∀ (x_5 : Int × List (Bool × Int × Int × Unit)), Wr ((0 : Int) ≤ x_5.fst ∧ List.length x_5.snd = List.length (x.snd.fst ++ (Bool.true, x.snd.snd.fst, (1 : Int), ()) :: nilL (Bool × Int × Int ×
  Unit)) ∧ List.length x_5.snd ≤ (1000000 : Nat)) → bcase (Decidable.decide (x_5.fst < (↑(List.length x_5.snd) : Int))) (Wr ((0 : Int) ≤ x_5.fst) ∧ Wr (x_5.fst < (↑(List.length x_5.snd) : Int)) ∧ Wr ((0 : Int) ≤ x_5.fst)
  ∧ Wr (x_5.fst < (↑(List.length x_5.snd) : Int)) ∧ Wr ((0 : Int) ≤ IntKind.wrap IntKind.i64 (x_5.fst + (1 : Int)) ∧ List.length (List.set x_5.snd (Int.toNat x_5.fst) ((List.getD x_5.snd (Int.toNat x_5.fst) (Ty.zero
  markT)).fst, (List.getD x_5.snd (Int.toNat x_5.fst) (Ty.zero markT)).snd.fst, xorI IntKind.i64 (List.getD x_5.snd (Int.toNat x_5.fst) (Ty.zero markT)).snd.snd.fst (1 : Int), ())) = List.length (x.snd.fst ++ (Bool.true,
  x.snd.snd.fst, (1 : Int), ()) :: nilL (Bool × Int × Int × Unit)) ∧ List.length (List.set x_5.snd (Int.toNat x_5.fst) ((List.getD x_5.snd (Int.toNat x_5.fst) (Ty.zero markT)).fst, (List.getD x_5.snd (Int.toNat x_5.fst)
  (Ty.zero markT)).snd.fst, xorI IntKind.i64 (List.getD x_5.snd (Int.toNat x_5.fst) (Ty.zero markT)).snd.snd.fst (1 : Int), ())) ≤ (1000000 : Nat)) ∧ Wr (List.length (x.snd.fst ++ (Bool.true, x.snd.snd.fst, (1 : Int), ())
  :: nilL (Bool × Int × Int × Unit)) - Int.toNat (IntKind.wrap IntKind.i64 (x_5.fst + (1 : Int))) < List.length (x.snd.fst ++ (Bool.true, x.snd.snd.fst, (1 : Int), ()) :: nilL (Bool × Int × Int × Unit)) - Int.toNat
  x_5.fst) ∧ Wr (IntKind.wrap IntKind.i64 (x_5.fst + (1 : Int)) = IntKind.wrap IntKind.i64 (x_5.fst + (1 : Int))) ∧ Wr (x.fst = x.fst) ∧ Wr (x.snd.fst = x.snd.fst) ∧ Wr (x.snd.snd.fst = x.snd.snd.fst) ∧ Wr ((↑(3 : Nat) :
  Int) = (↑(3 : Nat) : Int)) ∧ Wr (IntKind.wrap IntKind.i64 (IntKind.wrap IntKind.i64 (IntKind.wrap IntKind.i64 ((0 : Int) + (1 : Int)) + (1 : Int)) + (1 : Int)) = IntKind.wrap IntKind.i64 (IntKind.wrap IntKind.i64
  (IntKind.wrap IntKind.i64 ((0 : Int) + (1 : Int)) + (1 : Int)) + (1 : Int))) ∧ Wr ((↑(2 : Nat) : Int) = (↑(2 : Nat) : Int)) ∧ Wr (IntKind.wrap IntKind.i64 ((0 : Int) + (1 : Int)) = IntKind.wrap IntKind.i64 ((0 : Int) +
  (1 : Int))) ∧ Wr (List.set x_5.snd (Int.toNat x_5.fst) ((List.getD x_5.snd (Int.toNat x_5.fst) (Ty.zero markT)).fst, (List.getD x_5.snd (Int.toNat x_5.fst) (Ty.zero markT)).snd.fst, xorI IntKind.i64 (List.getD x_5.snd
  (Int.toNat x_5.fst) (Ty.zero markT)).snd.snd.fst (1 : Int), ()) = List.set x_5.snd (Int.toNat x_5.fst) ((List.getD x_5.snd (Int.toNat x_5.fst) (Ty.zero markT)).fst, (List.getD x_5.snd (Int.toNat x_5.fst) (Ty.zero
  markT)).snd.fst, xorI IntKind.i64 (List.getD x_5.snd (Int.toNat x_5.fst) (Ty.zero markT)).snd.snd.fst (1 : Int), ())) ∧ Wr (nilL ((Int × (Int × Int × Int × Int × Int × Int × Int × Int × Unit) × Int × Unit) × Int × Int ×
  Int × Bool × Unit) ++ x.fst = nilL ((Int × (Int × Int × Int × Int × Int × Int × Int × Int × Unit) × Int × Unit) × Int × Int × Int × Bool × Unit) ++ x.fst) ∧ Wr (nilL (Bool × Int × Int × Unit) ++ x.snd.fst = nilL (Bool ×
  Int × Int × Unit) ++ x.snd.fst) ∧ Wr (x_1.snd = x_1.snd) ∧ Wr (x_4.snd = x_4.snd) ∧ Wr (x_2.snd = x_2.snd) ∧ Wr (x_3.snd = x_3.snd)) (Wr (x.fst = nilL ((Int × (Int × Int × Int × Int × Int × Int × Int × Int × Unit) × Int
  × Unit) × Int × Int × Int × Bool × Unit) ++ x.fst ∧ List.length x.fst ≤ (1000000 : Nat)) ∧ Wr (Bool.true = Bool.true → x.snd.fst = nilL (Bool × Int × Int × Unit) ++ x.snd.fst ∧ List.length x.snd.fst ≤ (1000000 : Nat)) ∧
  Wr ((Bool.true && Bool.true) = Bool.true → True) ∧ (Bool.true && Bool.true && Bool.true, ()) = (Bool.true, ())))))))))) := by kernel_rfl
end Go.Proofs.Ytfkfjbppncbkjaa.Sk
set_option linter.all false
namespace Go.Proofs.Ytfkfjbppncbkjaa.Sk
open Go Go.Eng
set_option maxRecDepth 100000
set_option maxHeartbeats 4000000
def noErr : Ty → Bool
  | .int _ | .bool | .str | .unit => true
  | .cons t u => noErr t && noErr u
  | _ => false
theorem eqb_refl : ∀ (t : Ty), noErr t = true → ∀ (x : t.El), t.eqb x x = true
  | .int _, _, x => by simp [Ty.eqb]
  | .bool, _, x => by simp [Ty.eqb]
  | .str, _, x => by simp [Ty.eqb]
  | .unit, _, x => by simp [Ty.eqb]
  | .cons t u, h, x => by
    simp only [noErr, Bool.and_eq_true] at h
    simp [Ty.eqb, eqb_refl t h.1, eqb_refl u h.2]
theorem v47 : Vc g47 300 Try.f47 (cSame sockT) := by
  constructor
  rw [v47_eq]
  simp only [Wr_iff, bcase_iff, true_and, and_true, decide_eq_true_eq, decide_eq_false_iff_not, Bool.and_eq_true, Bool.and_eq_false_iff, Bool.or_eq_true, Bool.or_eq_false_iff, Bool.not_eq_true', Bool.not_eq_false', Option.map_some, Option.getD_some, Option.isSome_some, Option.isSome_map, imp_self, nilL, noneO]
  intro x
  generalize x.fst = l
  generalize x.snd.fst = k
  rintro ⟨rfl, hl⟩
  refine ⟨fun h => absurd rfl h, fun _ => ⟨⟨by omega, by omega⟩, ?_⟩⟩
  rintro i ⟨h0, h1⟩
  refine ⟨fun hi => ⟨h0, hi, h0, hi, fun h => ?_, fun _ => ?_⟩, fun _ => trivial⟩
  · rw [eqb_refl sockT rfl] at h; cases h
  · rw [wrap_id (by omega) (by omega)]
    omega
theorem v48 : Vc g48 300 Try.f48 (cSame markT) := by
  constructor
  rw [v48_eq]
  simp only [Wr_iff, bcase_iff, true_and, and_true, decide_eq_true_eq, decide_eq_false_iff_not, Bool.and_eq_true, Bool.and_eq_false_iff, Bool.or_eq_true, Bool.or_eq_false_iff, Bool.not_eq_true', Bool.not_eq_false', Option.map_some, Option.getD_some, Option.isSome_some, Option.isSome_map, imp_self, nilL, noneO]
  intro x
  generalize x.fst = l
  generalize x.snd.fst = k
  rintro ⟨rfl, hl⟩
  refine ⟨fun h => absurd rfl h, fun _ => ⟨⟨by omega, by omega⟩, ?_⟩⟩
  rintro i ⟨h0, h1⟩
  refine ⟨fun hi => ⟨h0, hi, h0, hi, fun h => ?_, fun _ => ?_⟩, fun _ => trivial⟩
  · rw [eqb_refl markT rfl] at h; cases h
  · rw [wrap_id (by omega) (by omega)]
    omega
end Go.Proofs.Ytfkfjbppncbkjaa.Sk
set_option linter.all false
namespace Go.Proofs.Ytfkfjbppncbkjaa.Sk
open Go Go.Eng
set_option maxRecDepth 100000
set_option maxHeartbeats 4000000
theorem msr {L : Nat} {i : Int} (h0 : 0 ≤ i) (h1 : i < L) (h2 : L ≤ 1000000) : L - (IntKind.wrap .i64 (i + 1)).toNat < L - i.toNat := by
  rw [wrap_id (by omega) (by omega)]; omega
theorem v12 : Vc g12 300 Try.f12 cSockOwn := by
  constructor
  rw [v12_eq]
  simp only [Wr_iff, bcase_iff, true_and, and_true, decide_eq_true_eq, decide_eq_false_iff_not, Bool.and_eq_true, Bool.and_eq_false_iff, Bool.or_eq_true, Bool.or_eq_false_iff, Bool.not_eq_true', Bool.not_eq_false', Option.map_some, Option.getD_some, Option.isSome_some, Option.isSome_map, imp_self, nilL, noneO]
  intro x
  generalize x.fst = l
  generalize x.snd.fst = m
  generalize x.snd.snd.fst = n
  intro _
  refine ⟨fun _ => trivial, fun hg => ?_⟩
  have ho : [n].all (opens l) = true → 0 ≤ n ∧ n < l.length := by
    intro h
    simp only [List.all_cons, List.all_nil, Bool.and_true, opens, inR, Bool.and_eq_true, decide_eq_true_eq] at h
    exact h.1
  repeat' (first | with_reducible apply And.intro | intro _)
  all_goals first
    | omega
    | (simp only [List.length_append, List.length_cons, List.length_nil, List.length_set, List.nil_append]; omega)
    | (rw [wrap_id (by simp only [List.length_append, List.length_cons, List.length_nil] at *; omega) (by simp only [List.length_append, List.length_cons, List.length_nil] at *; omega)]; simp only [List.length_append, List.length_cons, List.length_nil, List.length_set, List.nil_append] at *; omega)
    | rfl
    | (simp; done)
    | (simp; omega)
    | (have := ho (by assumption); omega)
    | exact msr (by omega) (by omega) (by omega)
    | (refine Eq.trans List.length_set ?_; omega)
    | (refine Nat.le_trans (Nat.le_of_eq List.length_set) ?_; omega)
    | (refine Eq.trans List.length_set ?_; simp only [List.length_append, List.length_cons, List.length_nil, List.length_set, List.nil_append] at *; omega)
    | (refine Nat.le_trans (Nat.le_of_eq List.length_set) ?_; simp only [List.length_append, List.length_cons, List.length_nil, List.length_set, List.nil_append] at *; omega)
end Go.Proofs.Ytfkfjbppncbkjaa.Sk
namespace Go.Proofs.Ytfkfjbppncbkjaa.Sk
open Go Go.Eng
set_option maxRecDepth 100000
theorem val47 : Valid Try.prog 47 (cSame sockT) := mkValid Tb.mix Tb.tab_ok Tb.eqs_ok g47 rfl allV_nil allI_nil Try.func47 (by kernel_rfl) v47
theorem val48 : Valid Try.prog 48 (cSame markT) := mkValid Tb.mix Tb.tab_ok Tb.eqs_ok g48 rfl allV_nil allI_nil Try.func48 (by kernel_rfl) v48
theorem val12 : Valid Try.prog 12 cSockOwn := mkValid Tb.mix Tb.tab_ok Tb.eqs_ok g12 rfl (allV_cons val32 (allV_cons val47 (allV_cons val48 (allV_cons val60 (allV_cons val61 (allV_cons val62 (allV_cons val63 allV_nil))))))) (allI_cons Try.func30 (by kernel_rfl) (allI_cons Try.func43 (by kernel_rfl) (allI_cons Try.func44 (by kernel_rfl) (allI_cons Try.func45 (by kernel_rfl) allI_nil)))) Try.func12 (by kernel_rfl) v12
end Go.Proofs.Ytfkfjbppncbkjaa.Sk

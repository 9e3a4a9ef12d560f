/-
  A text of mine, of several parts: Bk1Vc, BkP, BkShelf, BkLib, BkSeq, Bk1V, BkDef3, Bk2Cfg, Bk2Vc, BkTop, BkP2, Bk2V, Bk3Cfg, Bk3Vc, BkP3, Bk3V, BkDef4, Bk4Cfg.
-/
import Derived.Test.YtdkcgcgefgeooaaBca
import Derived.Test.YtdkcgcgefgeooaaBcb
import Derived.Test.YtdkcgcgefgeooaaBcc
import Derived.Shelf.Sort.Plain
import Derived.Shelf.Slices.CompactI
import Derived.Shelf.Slices.Delete
import Derived.Shelf.Slices.In.SortNone
import Derived.Shelf.Slices.Empties
import Derived.Test.YtdkcgcgefgeooaaProg
import Derived.Sort.OwnSortedInts
import Derived.RangeFuncBox
import Derived.RangeFuncLeaves
import Derived.Shelf.Abstract
import Derived.WalkKit
import Derived.OwnWalkIn
import Derived.TacticsInMore
import Derived.LoopNIn
import Derived.LoopIn
import Derived.Maps.AppendAt
import Derived.Shelf.RegionOpenV
import Derived.WalkMore
set_option linter.all false
namespace Go.Proofs.Ytdkcgcgefgeooaa.Bk
open Go Go.Eng 
set_option maxRecDepth 100000
theorem v39_eq : vcFn g39 300 Try.f39 cOn = ( ∀ (x : (Int × Bool × Int × Unit) × Unit), Wr (Bool.true = Bool.true) → (Decidable.decide (x.fst.fst ≥ (0 : Int)), ()) = (onF x.fst, ())) := by kernel_rfl
theorem v46_eq : vcFn g46 300 Try.f46 cIdx.T = ( ∀ (x : List Int × Int × Unit), Wr (typedB (Ty.cons IL (Ty.cons I64 Ty.unit)) x = Bool.true ∧ Bool.true = Bool.true) → (Wr (IdI x.snd.fst x.fst (0 : Int)) ∧ Wr ((0 : Int) = (0 : Int)) ∧ Wr (x.fst = x.fst) ∧ Wr (x.snd.fst
  = x.snd.fst) ∧ Wr (x.fst = x.fst) ∧ Wr ((↑(List.length x.fst) : Int) = (↑(List.length x.fst) : Int))) ∧ ∀ (x_1 : Int), Wr (IdI x.snd.fst x.fst x_1) → bcase (Decidable.decide (x_1 < (↑(List.length x.fst) : Int))) (Wr ((0
  : Int) ≤ x_1) ∧ Wr (x_1 < (↑(List.length x.fst) : Int)) ∧ Wr (Bool.true = Bool.true) ∧ bcase (Decidable.decide (x.snd.fst = List.getD x.fst (Int.toNat x_1) (0 : Int))) ((x_1, ()) = (idxN x.snd.fst x.fst, ())) (Wr (IdI
  x.snd.fst x.fst (IntKind.wrap IntKind.i64 (x_1 + (1 : Int)))) ∧ Wr (List.length x.fst - Int.toNat (IntKind.wrap IntKind.i64 (x_1 + (1 : Int))) < List.length x.fst - Int.toNat x_1) ∧ Wr (IntKind.wrap IntKind.i64 (x_1 +
  (1 : Int)) = IntKind.wrap IntKind.i64 (x_1 + (1 : Int))) ∧ Wr (x.fst = x.fst) ∧ Wr (x.snd.fst = x.snd.fst) ∧ Wr (x.fst = x.fst) ∧ Wr ((↑(List.length x.fst) : Int) = (↑(List.length x.fst) : Int)))) (((-1 : Int), ()) =
  (idxN x.snd.fst x.fst, ()))) := by kernel_rfl
theorem v43_eq : vcFn g43 300 Try.f43 cIdx.T = ( ∀ (x : List Int × Int × Unit), Wr (typedB (Ty.cons IL (Ty.cons I64 Ty.unit)) x = Bool.true ∧ Bool.true = Bool.true) → (Wr (IdI x.snd.fst x.fst (0 : Int)) ∧ Wr ((0 : Int) = (0 : Int)) ∧ Wr (x.fst = x.fst) ∧ Wr (x.snd.fst
  = x.snd.fst)) ∧ ∀ (x_1 : Int), Wr (IdI x.snd.fst x.fst x_1) → bcase (Decidable.decide (x_1 < (↑(List.length x.fst) : Int))) (Wr ((0 : Int) ≤ x_1) ∧ Wr (x_1 < (↑(List.length x.fst) : Int)) ∧ Wr (Bool.true = Bool.true) ∧
  bcase (Decidable.decide (List.getD x.fst (Int.toNat x_1) (0 : Int) = x.snd.fst)) ((x_1, ()) = (idxN x.snd.fst x.fst, ())) (Wr (IdI x.snd.fst x.fst (IntKind.wrap IntKind.i64 (x_1 + (1 : Int)))) ∧ Wr (List.length x.fst -
  Int.toNat (IntKind.wrap IntKind.i64 (x_1 + (1 : Int))) < List.length x.fst - Int.toNat x_1) ∧ Wr (IntKind.wrap IntKind.i64 (x_1 + (1 : Int)) = IntKind.wrap IntKind.i64 (x_1 + (1 : Int))) ∧ Wr (x.fst = x.fst) ∧ Wr
  (x.snd.fst = x.snd.fst))) (((-1 : Int), ()) = (idxN x.snd.fst x.fst, ()))) := by kernel_rfl
theorem v48_eq : vcFn g48 300 Try.f48 ((cClone 3 8 I64)) = ( ∀ (x : List Int × Unit), Wr (Decidable.decide (List.length x.fst * (8 : Nat) ≤ (140737488355328 : Nat)) = Bool.true) → ∀ (b : Bool), Wr (b = Bool.true → x.fst = nilL Int) → bcase b (x.fst = nilL Int) (Wr ((List.length
  (nilL Int) + List.length x.fst) * (8 : Nat) ≤ (140737488355328 : Nat)) ∧ nilL Int ++ x.fst = x.fst)) := by kernel_rfl
theorem v71_eq : vcFn g71 300 Try.f71 cPart.T = ( ∀ (x : (Int × Bool × Int × Unit) × Int × Unit), Wr (typedB (Ty.cons FlT (Ty.cons I64 Ty.unit)) x = Bool.true ∧ Bool.true = Bool.true) → Wr (Bool.true = Bool.true) ∧ bcase (onF (x.fst.fst, x.fst.snd.fst, Max.max
  (IntKind.wrap IntKind.i64 (Max.max x.fst.snd.snd.fst (0 : Int) - Max.max x.snd.fst (0 : Int))) (0 : Int), ()) && !x.fst.snd.fst && Decidable.decide (Max.max (IntKind.wrap IntKind.i64 (Max.max x.fst.snd.snd.fst (0 : Int)
  - Max.max x.snd.fst (0 : Int))) (0 : Int) = (0 : Int))) (((x.fst.fst, Bool.true, Max.max (IntKind.wrap IntKind.i64 (Max.max x.fst.snd.snd.fst (0 : Int) - Max.max x.snd.fst (0 : Int))) (0 : Int), ()), onF (x.fst.fst,
  x.fst.snd.fst, Max.max (IntKind.wrap IntKind.i64 (Max.max x.fst.snd.snd.fst (0 : Int) - Max.max x.snd.fst (0 : Int))) (0 : Int), ()) && !x.fst.snd.fst && Decidable.decide (Max.max (IntKind.wrap IntKind.i64 (Max.max
  x.fst.snd.snd.fst (0 : Int) - Max.max x.snd.fst (0 : Int))) (0 : Int) = (0 : Int)), ()) = (partF x.fst x.snd.fst, partC x.fst x.snd.fst, ())) (((x.fst.fst, x.fst.snd.fst, Max.max (IntKind.wrap IntKind.i64 (Max.max
  x.fst.snd.snd.fst (0 : Int) - Max.max x.snd.fst (0 : Int))) (0 : Int), ()), onF (x.fst.fst, x.fst.snd.fst, Max.max (IntKind.wrap IntKind.i64 (Max.max x.fst.snd.snd.fst (0 : Int) - Max.max x.snd.fst (0 : Int))) (0 :
  Int), ()) && !x.fst.snd.fst && Decidable.decide (Max.max (IntKind.wrap IntKind.i64 (Max.max x.fst.snd.snd.fst (0 : Int) - Max.max x.snd.fst (0 : Int))) (0 : Int) = (0 : Int)), ()) = (partF x.fst x.snd.fst, partC x.fst
  x.snd.fst, ()))) := by kernel_rfl
theorem v70_eq : vcFn g70 300 Try.f70 cStarts = ( ∀ (x : (Int × Bool × Int × Unit) × Unit), Wr (Bool.true = Bool.true) → Wr (Bool.true = Bool.true) ∧ (!onF x.fst && Decidable.decide (x.fst.snd.snd.fst > (0 : Int)), ()) = (startsF x.fst, ())) := by kernel_rfl
theorem v62_eq : vcFn g62 300 Try.f62 cJoin = ( ∀ (x : (Int × Bool × Int × Unit) × List Int × Unit), Wr ((Decidable.decide (x.fst.snd.snd.fst ≤ (1152921504606846976 : Ty.El I64)) && Decidable.decide (List.length x.snd.fst = (1 : Nat))) = Bool.true) → ((x.fst.fst,
  x.fst.snd.fst, IntKind.wrap IntKind.i64 (Max.max x.fst.snd.snd.fst (0 : Int) + (↑(List.length x.snd.fst) : Int)), ()), ()) = (joinF x.fst, ())) := by kernel_rfl
theorem v65_eq : vcFn g65 300 Try.f65 cEnd = ( ∀ (x : (Int × Bool × Int × Unit) × Unit), Wr (Bool.true = Bool.true) → (((-1 : Int), Bool.false, Max.max x.fst.snd.snd.fst (0 : Int), ()), ()) = (endF x.fst, ())) := by kernel_rfl
theorem v44_eq : vcFn g44 300 Try.f44 cBegin = ( ∀ (x : (Int × Bool × Int × Unit) × Int × Unit), Wr (Bool.true = Bool.true) → Wr (Bool.true = Bool.true) ∧ bcase (onF x.fst || Decidable.decide (x.snd.fst < (0 : Int))) ((((0 : Int), Bool.false, (0 : Int), ()), (2 : Int),
  ()) = (beginF x.fst x.snd.fst, beginE x.fst x.snd.fst, ())) (((x.snd.fst, Bool.false, Max.max x.fst.snd.snd.fst (0 : Int), ()), (0 : Int), ()) = (beginF x.fst x.snd.fst, beginE x.fst x.snd.fst, ()))) := by kernel_rfl
theorem v30_eq : vcFn g30 300 Try.f30 cFlCk = ( ∀ (x : (Int × Bool × Int × Unit) × Unit), Wr (Bool.true = Bool.true) → Wr ((!(Decidable.decide (x.fst.fst < (-1 : Int)) || Decidable.decide (x.fst.snd.snd.fst < (0 : Int))) && x.fst.snd.fst) = Bool.true → Bool.true =
  Bool.true) ∧ bcase (Decidable.decide (x.fst.fst < (-1 : Int)) || Decidable.decide (x.fst.snd.snd.fst < (0 : Int)) || x.fst.snd.fst && !onF x.fst) (((2 : Int), ()) = (flCk x.fst, ())) (((0 : Int), ()) = (flCk x.fst, ()))) := by kernel_rfl
theorem v24_eq : vcFn g24 300 Try.f24 cFlCk = ( ∀ (x : (Int × Bool × Int × Unit) × Unit), Wr (Bool.true = Bool.true) → bcase (Decidable.decide (x.fst.fst < (-1 : Int)) || Decidable.decide (x.fst.snd.snd.fst < (0 : Int)) || x.fst.snd.fst && Decidable.decide (x.fst.fst
  < (0 : Int))) (((2 : Int), ()) = (flCk x.fst, ())) (((0 : Int), ()) = (flCk x.fst, ()))) := by kernel_rfl
theorem v13_eq : vcFn g13 300 Try.f13 cOwns = ( ∀ (x : ((Int × Int × Int × Int × Int × Int × Int × Int × Int × Unit) × List (Int × Int × Unit) × List Int × List Int × (Int × Bool × Int × Unit) × List ((Int × (Int × Int × Int × Int × Int × Int × Int × Int × Unit) × Int
  × Unit) × Int × Unit) × Bool × Unit) × Unit), Wr (szB x.fst = Bool.true) → (Wr (OwI x.fst.snd.fst (0 : Int) (nilL Int)) ∧ Wr ((0 : Int) = (0 : Int)) ∧ Wr (x.fst.snd.fst = x.fst.snd.fst) ∧ Wr ((↑(List.length
  x.fst.snd.fst) : Int) = (↑(List.length x.fst.snd.fst) : Int)) ∧ Wr (nilL Int = nilL Int) ∧ Wr (x.fst.fst.fst = x.fst.fst.fst) ∧ Wr (x.fst.fst.snd.fst = x.fst.fst.snd.fst) ∧ Wr (x.fst.fst.snd.snd.fst =
  x.fst.fst.snd.snd.fst) ∧ Wr (x.fst.fst.snd.snd.snd.fst = x.fst.fst.snd.snd.snd.fst) ∧ Wr (x.fst.fst.snd.snd.snd.snd.fst = x.fst.fst.snd.snd.snd.snd.fst) ∧ Wr (x.fst.fst.snd.snd.snd.snd.snd.fst =
  x.fst.fst.snd.snd.snd.snd.snd.fst) ∧ Wr (x.fst.fst.snd.snd.snd.snd.snd.snd.fst = x.fst.fst.snd.snd.snd.snd.snd.snd.fst) ∧ Wr (x.fst.fst.snd.snd.snd.snd.snd.snd.snd.fst = x.fst.fst.snd.snd.snd.snd.snd.snd.snd.fst) ∧ Wr
  (x.fst.fst.snd.snd.snd.snd.snd.snd.snd.snd.fst = x.fst.fst.snd.snd.snd.snd.snd.snd.snd.snd.fst) ∧ Wr (x.fst.snd.fst = x.fst.snd.fst) ∧ Wr (x.fst.snd.snd.fst = x.fst.snd.snd.fst) ∧ Wr (x.fst.snd.snd.snd.fst =
  x.fst.snd.snd.snd.fst) ∧ Wr (x.fst.snd.snd.snd.snd.fst.fst = x.fst.snd.snd.snd.snd.fst.fst) ∧ Wr (x.fst.snd.snd.snd.snd.fst.snd.fst = x.fst.snd.snd.snd.snd.fst.snd.fst) ∧ Wr (x.fst.snd.snd.snd.snd.fst.snd.snd.fst =
  x.fst.snd.snd.snd.snd.fst.snd.snd.fst) ∧ Wr (x.fst.snd.snd.snd.snd.snd.fst = x.fst.snd.snd.snd.snd.snd.fst) ∧ Wr (x.fst.snd.snd.snd.snd.snd.snd.fst = x.fst.snd.snd.snd.snd.snd.snd.fst)) ∧ ∀ (x_1 : Int × List Int), Wr
  (OwI x.fst.snd.fst x_1.fst x_1.snd) → bcase (Decidable.decide (x_1.fst < (↑(List.length x.fst.snd.fst) : Int))) (Wr ((0 : Int) ≤ x_1.fst) ∧ Wr (x_1.fst < (↑(List.length x.fst.snd.fst) : Int)) ∧ Wr (Bool.true =
  Bool.true) ∧ Wr ((List.length x_1.snd + List.length ((List.getD x.fst.snd.fst (Int.toNat x_1.fst) (Ty.zero RestT)).fst :: nilL Int)) * (8 : Nat) ≤ (140737488355328 : Nat)) ∧ Wr (OwI x.fst.snd.fst (IntKind.wrap
  IntKind.i64 (x_1.fst + (1 : Int))) (x_1.snd ++ (List.getD x.fst.snd.fst (Int.toNat x_1.fst) (Ty.zero RestT)).fst :: nilL Int)) ∧ Wr (List.length x.fst.snd.fst - Int.toNat (IntKind.wrap IntKind.i64 (x_1.fst + (1 : Int)))
  < List.length x.fst.snd.fst - Int.toNat x_1.fst) ∧ Wr (IntKind.wrap IntKind.i64 (x_1.fst + (1 : Int)) = IntKind.wrap IntKind.i64 (x_1.fst + (1 : Int))) ∧ Wr (x.fst.snd.fst = x.fst.snd.fst) ∧ Wr ((↑(List.length
  x.fst.snd.fst) : Int) = (↑(List.length x.fst.snd.fst) : Int)) ∧ Wr (x_1.snd ++ (List.getD x.fst.snd.fst (Int.toNat x_1.fst) (Ty.zero RestT)).fst :: nilL Int = x_1.snd ++ (List.getD x.fst.snd.fst (Int.toNat x_1.fst)
  (Ty.zero RestT)).fst :: nilL Int) ∧ Wr (x.fst.fst.fst = x.fst.fst.fst) ∧ Wr (x.fst.fst.snd.fst = x.fst.fst.snd.fst) ∧ Wr (x.fst.fst.snd.snd.fst = x.fst.fst.snd.snd.fst) ∧ Wr (x.fst.fst.snd.snd.snd.fst =
  x.fst.fst.snd.snd.snd.fst) ∧ Wr (x.fst.fst.snd.snd.snd.snd.fst = x.fst.fst.snd.snd.snd.snd.fst) ∧ Wr (x.fst.fst.snd.snd.snd.snd.snd.fst = x.fst.fst.snd.snd.snd.snd.snd.fst) ∧ Wr (x.fst.fst.snd.snd.snd.snd.snd.snd.fst =
  x.fst.fst.snd.snd.snd.snd.snd.snd.fst) ∧ Wr (x.fst.fst.snd.snd.snd.snd.snd.snd.snd.fst = x.fst.fst.snd.snd.snd.snd.snd.snd.snd.fst) ∧ Wr (x.fst.fst.snd.snd.snd.snd.snd.snd.snd.snd.fst =
  x.fst.fst.snd.snd.snd.snd.snd.snd.snd.snd.fst) ∧ Wr (x.fst.snd.fst = x.fst.snd.fst) ∧ Wr (x.fst.snd.snd.fst = x.fst.snd.snd.fst) ∧ Wr (x.fst.snd.snd.snd.fst = x.fst.snd.snd.snd.fst) ∧ Wr (x.fst.snd.snd.snd.snd.fst.fst =
  x.fst.snd.snd.snd.snd.fst.fst) ∧ Wr (x.fst.snd.snd.snd.snd.fst.snd.fst = x.fst.snd.snd.snd.snd.fst.snd.fst) ∧ Wr (x.fst.snd.snd.snd.snd.fst.snd.snd.fst = x.fst.snd.snd.snd.snd.fst.snd.snd.fst) ∧ Wr
  (x.fst.snd.snd.snd.snd.snd.fst = x.fst.snd.snd.snd.snd.snd.fst) ∧ Wr (x.fst.snd.snd.snd.snd.snd.snd.fst = x.fst.snd.snd.snd.snd.snd.snd.fst)) (Wr ((List.length x_1.snd + List.length x.fst.snd.snd.fst) * (8 : Nat) ≤
  (140737488355328 : Nat)) ∧ (x_1.snd ++ x.fst.snd.snd.fst, ()) = (ownsL x.fst, ()))) := by kernel_rfl
theorem v23_eq : vcFn g23 300 Try.f23 cOwns = ( ∀ (x : ((Int × Int × Int × Int × Int × Int × Int × Int × Int × Unit) × List (Int × Int × Unit) × List Int × List Int × (Int × Bool × Int × Unit) × List ((Int × (Int × Int × Int × Int × Int × Int × Int × Int × Unit) × Int
  × Unit) × Int × Unit) × Bool × Unit) × Unit), Wr (szB x.fst = Bool.true) → (Wr (OwI x.fst.snd.fst (0 : Int) (nilL Int)) ∧ Wr ((0 : Int) = (0 : Int)) ∧ Wr (nilL Int = nilL Int) ∧ Wr (x.fst.fst.fst = x.fst.fst.fst) ∧ Wr
  (x.fst.fst.snd.fst = x.fst.fst.snd.fst) ∧ Wr (x.fst.fst.snd.snd.fst = x.fst.fst.snd.snd.fst) ∧ Wr (x.fst.fst.snd.snd.snd.fst = x.fst.fst.snd.snd.snd.fst) ∧ Wr (x.fst.fst.snd.snd.snd.snd.fst =
  x.fst.fst.snd.snd.snd.snd.fst) ∧ Wr (x.fst.fst.snd.snd.snd.snd.snd.fst = x.fst.fst.snd.snd.snd.snd.snd.fst) ∧ Wr (x.fst.fst.snd.snd.snd.snd.snd.snd.fst = x.fst.fst.snd.snd.snd.snd.snd.snd.fst) ∧ Wr
  (x.fst.fst.snd.snd.snd.snd.snd.snd.snd.fst = x.fst.fst.snd.snd.snd.snd.snd.snd.snd.fst) ∧ Wr (x.fst.fst.snd.snd.snd.snd.snd.snd.snd.snd.fst = x.fst.fst.snd.snd.snd.snd.snd.snd.snd.snd.fst) ∧ Wr (x.fst.snd.fst =
  x.fst.snd.fst) ∧ Wr (x.fst.snd.snd.fst = x.fst.snd.snd.fst) ∧ Wr (x.fst.snd.snd.snd.fst = x.fst.snd.snd.snd.fst) ∧ Wr (x.fst.snd.snd.snd.snd.fst.fst = x.fst.snd.snd.snd.snd.fst.fst) ∧ Wr
  (x.fst.snd.snd.snd.snd.fst.snd.fst = x.fst.snd.snd.snd.snd.fst.snd.fst) ∧ Wr (x.fst.snd.snd.snd.snd.fst.snd.snd.fst = x.fst.snd.snd.snd.snd.fst.snd.snd.fst) ∧ Wr (x.fst.snd.snd.snd.snd.snd.fst =
  x.fst.snd.snd.snd.snd.snd.fst) ∧ Wr (x.fst.snd.snd.snd.snd.snd.snd.fst = x.fst.snd.snd.snd.snd.snd.snd.fst)) ∧ ∀ (x_1 : Int × List Int), Wr (OwI x.fst.snd.fst x_1.fst x_1.snd) → bcase (Decidable.decide (x_1.fst <
  (↑(List.length x.fst.snd.fst) : Int))) (Wr ((0 : Int) ≤ x_1.fst) ∧ Wr (x_1.fst < (↑(List.length x.fst.snd.fst) : Int)) ∧ Wr (Bool.true = Bool.true) ∧ Wr (Bool.true = Bool.true) ∧ Wr ((List.length x_1.snd + List.length
  ((List.getD x.fst.snd.fst (Int.toNat x_1.fst) (Ty.zero RestT)).fst :: nilL Int)) * (8 : Nat) ≤ (140737488355328 : Nat)) ∧ Wr (OwI x.fst.snd.fst (IntKind.wrap IntKind.i64 (x_1.fst + (1 : Int))) (x_1.snd ++ (List.getD
  x.fst.snd.fst (Int.toNat x_1.fst) (Ty.zero RestT)).fst :: nilL Int)) ∧ Wr (List.length x.fst.snd.fst - Int.toNat (IntKind.wrap IntKind.i64 (x_1.fst + (1 : Int))) < List.length x.fst.snd.fst - Int.toNat x_1.fst) ∧ Wr
  (IntKind.wrap IntKind.i64 (x_1.fst + (1 : Int)) = IntKind.wrap IntKind.i64 (x_1.fst + (1 : Int))) ∧ Wr (x_1.snd ++ (List.getD x.fst.snd.fst (Int.toNat x_1.fst) (Ty.zero RestT)).fst :: nilL Int = x_1.snd ++ (List.getD
  x.fst.snd.fst (Int.toNat x_1.fst) (Ty.zero RestT)).fst :: nilL Int) ∧ Wr (x.fst.fst.fst = x.fst.fst.fst) ∧ Wr (x.fst.fst.snd.fst = x.fst.fst.snd.fst) ∧ Wr (x.fst.fst.snd.snd.fst = x.fst.fst.snd.snd.fst) ∧ Wr
  (x.fst.fst.snd.snd.snd.fst = x.fst.fst.snd.snd.snd.fst) ∧ Wr (x.fst.fst.snd.snd.snd.snd.fst = x.fst.fst.snd.snd.snd.snd.fst) ∧ Wr (x.fst.fst.snd.snd.snd.snd.snd.fst = x.fst.fst.snd.snd.snd.snd.snd.fst) ∧ Wr
  (x.fst.fst.snd.snd.snd.snd.snd.snd.fst = x.fst.fst.snd.snd.snd.snd.snd.snd.fst) ∧ Wr (x.fst.fst.snd.snd.snd.snd.snd.snd.snd.fst = x.fst.fst.snd.snd.snd.snd.snd.snd.snd.fst) ∧ Wr
  (x.fst.fst.snd.snd.snd.snd.snd.snd.snd.snd.fst = x.fst.fst.snd.snd.snd.snd.snd.snd.snd.snd.fst) ∧ Wr (x.fst.snd.fst = x.fst.snd.fst) ∧ Wr (x.fst.snd.snd.fst = x.fst.snd.snd.fst) ∧ Wr (x.fst.snd.snd.snd.fst =
  x.fst.snd.snd.snd.fst) ∧ Wr (x.fst.snd.snd.snd.snd.fst.fst = x.fst.snd.snd.snd.snd.fst.fst) ∧ Wr (x.fst.snd.snd.snd.snd.fst.snd.fst = x.fst.snd.snd.snd.snd.fst.snd.fst) ∧ Wr (x.fst.snd.snd.snd.snd.fst.snd.snd.fst =
  x.fst.snd.snd.snd.snd.fst.snd.snd.fst) ∧ Wr (x.fst.snd.snd.snd.snd.snd.fst = x.fst.snd.snd.snd.snd.snd.fst) ∧ Wr (x.fst.snd.snd.snd.snd.snd.snd.fst = x.fst.snd.snd.snd.snd.snd.snd.fst)) (Wr ((List.length x_1.snd +
  List.length x.fst.snd.snd.fst) * (8 : Nat) ≤ (140737488355328 : Nat)) ∧ (x_1.snd ++ x.fst.snd.snd.fst, ()) = (ownsL x.fst, ()))) := by kernel_rfl
theorem v25_eq : vcFn g25 300 Try.f25 cTwice3 = ( ∀ (x : List Int × Unit), Wr (Decidable.decide (List.length x.fst ≤ (3000000 : Nat)) = Bool.true) → (Wr (TwI x.fst (0 : Int)) ∧ Wr ((0 : Int) = (0 : Int)) ∧ Wr (x.fst = x.fst)) ∧ ∀ (x_1 : Int), Wr (TwI x.fst x_1) → bcase
  (Decidable.decide (x_1 < (↑(List.length x.fst) : Int))) (Wr ((0 : Int) ≤ x_1) ∧ Wr (x_1 < (↑(List.length x.fst) : Int)) ∧ Wr (Bool.true = Bool.true) ∧ Wr (Bool.true = Bool.true) ∧ bcase (!Decidable.decide (idxN
  (List.getD x.fst (Int.toNat x_1) (0 : Int)) x.fst = x_1)) ((Bool.true, ()) = (twB x.fst, ())) (Wr (TwI x.fst (IntKind.wrap IntKind.i64 (x_1 + (1 : Int)))) ∧ Wr (List.length x.fst - Int.toNat (IntKind.wrap IntKind.i64
  (x_1 + (1 : Int))) < List.length x.fst - Int.toNat x_1) ∧ Wr (IntKind.wrap IntKind.i64 (x_1 + (1 : Int)) = IntKind.wrap IntKind.i64 (x_1 + (1 : Int))) ∧ Wr (x.fst = x.fst))) ((Bool.false, ()) = (twB x.fst, ()))) := by kernel_rfl
theorem v10_eq : vcFn g10 300 Try.f10 cCk = ( ∀ (x : ((Int × Int × Int × Int × Int × Int × Int × Int × Int × Unit) × List (Int × Int × Unit) × List Int × List Int × (Int × Bool × Int × Unit) × List ((Int × (Int × Int × Int × Int × Int × Int × Int × Int × Unit) × Int
  × Unit) × Int × Unit) × Bool × Unit) × Unit), Wr (szB x.fst = Bool.true) → Wr (szB x.fst = Bool.true) ∧ Wr (Bool.true = Bool.true) ∧ Wr ((Decidable.decide (flCk x.fst.snd.snd.snd.snd.fst = (0 : Int)) && Decidable.decide
  (x.fst.snd.snd.snd.snd.fst.snd.snd.fst = (↑(List.length x.fst.snd.snd.snd.fst) : Int)) && Decidable.decide ((↑(List.length x.fst.snd.fst) : Int) ≤ x.fst.fst.snd.fst)) = Bool.true → Decidable.decide (List.length (ownsL
  x.fst) ≤ (3000000 : Nat)) = Bool.true) ∧ Wr ((Decidable.decide (flCk x.fst.snd.snd.snd.snd.fst = (0 : Int)) && Decidable.decide (x.fst.snd.snd.snd.snd.fst.snd.snd.fst = (↑(List.length x.fst.snd.snd.snd.fst) : Int)) &&
  Decidable.decide ((↑(List.length x.fst.snd.fst) : Int) ≤ x.fst.fst.snd.fst) && Decidable.decide (List.Nodup (ownsL x.fst))) = Bool.true → Decidable.decide (List.length x.fst.snd.snd.snd.fst ≤ (3000000 : Nat)) =
  Bool.true) ∧ bcase (!(Decidable.decide (flCk x.fst.snd.snd.snd.snd.fst = (0 : Int)) && Decidable.decide (x.fst.snd.snd.snd.snd.fst.snd.snd.fst = (↑(List.length x.fst.snd.snd.snd.fst) : Int)) && Decidable.decide
  ((↑(List.length x.fst.snd.fst) : Int) ≤ x.fst.fst.snd.fst) && Decidable.decide (List.Nodup (ownsL x.fst)) && Decidable.decide (List.Nodup x.fst.snd.snd.snd.fst)) || Decidable.decide ((↑(List.length
  x.fst.snd.snd.snd.fst) : Int) > (0 : Int)) && Decidable.decide ((↑(List.length x.fst.snd.fst) : Int) > (0 : Int)) || x.fst.snd.snd.snd.snd.snd.snd.fst && Decidable.decide (IntKind.wrap IntKind.i64 ((↑(List.length (ownsL
  x.fst)) : Int) + (↑(List.length x.fst.snd.snd.snd.fst) : Int)) > (0 : Int))) (((2 : Int), ()) = (ckE x.fst, ())) (((0 : Int), ()) = (ckE x.fst, ()))) := by kernel_rfl
theorem v7_eq : vcFn g7 300 Try.f7 cCk = ( ∀ (x : ((Int × Int × Int × Int × Int × Int × Int × Int × Int × Unit) × List (Int × Int × Unit) × List Int × List Int × (Int × Bool × Int × Unit) × List ((Int × (Int × Int × Int × Int × Int × Int × Int × Int × Unit) × Int
  × Unit) × Int × Unit) × Bool × Unit) × Unit), Wr (szB x.fst = Bool.true) → Wr (szB x.fst = Bool.true) ∧ Wr (Bool.true = Bool.true) ∧ Wr ((!(!Decidable.decide (flCk x.fst.snd.snd.snd.snd.fst = (0 : Int)) ||
  !Decidable.decide (x.fst.snd.snd.snd.snd.fst.snd.snd.fst = (↑(List.length x.fst.snd.snd.snd.fst) : Int)) || Decidable.decide ((↑(List.length x.fst.snd.fst) : Int) > x.fst.fst.snd.fst))) = Bool.true → Decidable.decide
  (List.length (ownsL x.fst) ≤ (3000000 : Nat)) = Bool.true) ∧ Wr ((!(!Decidable.decide (flCk x.fst.snd.snd.snd.snd.fst = (0 : Int)) || !Decidable.decide (x.fst.snd.snd.snd.snd.fst.snd.snd.fst = (↑(List.length
  x.fst.snd.snd.snd.fst) : Int)) || Decidable.decide ((↑(List.length x.fst.snd.fst) : Int) > x.fst.fst.snd.fst) || twB (ownsL x.fst))) = Bool.true → Decidable.decide (List.length x.fst.snd.snd.snd.fst ≤ (3000000 : Nat)) =
  Bool.true) ∧ bcase (!Decidable.decide (flCk x.fst.snd.snd.snd.snd.fst = (0 : Int)) || !Decidable.decide (x.fst.snd.snd.snd.snd.fst.snd.snd.fst = (↑(List.length x.fst.snd.snd.snd.fst) : Int)) || Decidable.decide
  ((↑(List.length x.fst.snd.fst) : Int) > x.fst.fst.snd.fst) || twB (ownsL x.fst) || twB x.fst.snd.snd.snd.fst || Decidable.decide ((↑(List.length x.fst.snd.snd.snd.fst) : Int) > (0 : Int)) && Decidable.decide
  ((↑(List.length x.fst.snd.fst) : Int) > (0 : Int)) || x.fst.snd.snd.snd.snd.snd.snd.fst && Decidable.decide (IntKind.wrap IntKind.i64 ((↑(List.length (ownsL x.fst)) : Int) + (↑(List.length x.fst.snd.snd.snd.fst) : Int))
  > (0 : Int))) (((2 : Int), ()) = (ckE x.fst, ())) (((0 : Int), ()) = (ckE x.fst, ()))) := by kernel_rfl
theorem v6_eq : vcFn g6 300 Try.f6 cGreat = ( ∀ (x : ((Int × Int × Int × Int × Int × Int × Int × Int × Int × Unit) × List (Int × Int × Unit) × List Int × List Int × (Int × Bool × Int × Unit) × List ((Int × (Int × Int × Int × Int × Int × Int × Int × Int × Unit) × Int
  × Unit) × Int × Unit) × Bool × Unit) × Unit), Wr (Bool.true = Bool.true) → (Decidable.decide ((↑(List.length x.fst.snd.fst) : Int) > (60 : Int)) || Decidable.decide ((↑(List.length x.fst.snd.snd.fst) : Int) > (100 :
  Int)) || Decidable.decide ((↑(List.length x.fst.snd.snd.snd.fst) : Int) > (100 : Int)) || Decidable.decide ((↑(List.length x.fst.snd.snd.snd.snd.snd.fst) : Int) > (100 : Int)) || Decidable.decide
  (x.fst.snd.snd.snd.snd.fst.snd.snd.fst > (1099511627776 : Int)), ()) = (greatB x.fst, ())) := by kernel_rfl
theorem v33_eq : vcFn g33 300 Try.f33 ((cSam I64)).T = ( ∀ (x : List Int × List Int × Unit), Wr (typedB (Ty.cons (Ty.sl I64) (Ty.cons (Ty.sl I64) Ty.unit)) x = Bool.true ∧ x.fst = x.snd.fst) → bcase (!Decidable.decide ((↑(List.length x.fst) : Int) = (↑(List.length x.snd.fst) :
  Int))) ((Bool.false, ()) = (Bool.true, ())) ((Wr (EqI x.fst (0 : Int)) ∧ Wr ((0 : Int) = (0 : Int)) ∧ Wr (x.fst = x.fst) ∧ Wr (x.snd.fst = x.snd.fst) ∧ Wr ((↑(List.length x.fst) : Int) = (↑(List.length x.fst) : Int))) ∧
  ∀ (x_1 : Int), Wr (EqI x.fst x_1) → bcase (Decidable.decide (x_1 < (↑(List.length x.fst) : Int))) (Wr ((0 : Int) ≤ x_1) ∧ Wr (x_1 < (↑(List.length x.fst) : Int)) ∧ Wr (Bool.true = Bool.true) ∧ Wr ((0 : Int) ≤ x_1) ∧ Wr
  (x_1 < (↑(List.length x.snd.fst) : Int)) ∧ Wr (Bool.true = Bool.true) ∧ bcase (!Decidable.decide (List.getD x.fst (Int.toNat x_1) (0 : Int) = List.getD x.snd.fst (Int.toNat x_1) (0 : Int))) ((Bool.false, ()) =
  (Bool.true, ())) (Wr (EqI x.fst (IntKind.wrap IntKind.i64 (x_1 + (1 : Int)))) ∧ Wr (List.length x.fst - Int.toNat (IntKind.wrap IntKind.i64 (x_1 + (1 : Int))) < List.length x.fst - Int.toNat x_1) ∧ Wr (IntKind.wrap
  IntKind.i64 (x_1 + (1 : Int)) = IntKind.wrap IntKind.i64 (x_1 + (1 : Int))) ∧ Wr (x.fst = x.fst) ∧ Wr (x.snd.fst = x.snd.fst) ∧ Wr ((↑(List.length x.fst) : Int) = (↑(List.length x.fst) : Int)))) ((Bool.true, ()) =
  (Bool.true, ())))) := by kernel_rfl
theorem v54_eq : vcFn g54 300 Try.f54 ((cSam RestT)).T = ( ∀ (x : List (Int × Int × Unit) × List (Int × Int × Unit) × Unit), Wr (typedB (Ty.cons (Ty.sl RestT) (Ty.cons (Ty.sl RestT) Ty.unit)) x = Bool.true ∧ x.fst = x.snd.fst) → bcase (!Decidable.decide ((↑(List.length x.fst) :
  Int) = (↑(List.length x.snd.fst) : Int))) ((Bool.false, ()) = (Bool.true, ())) ((Wr (EqI x.fst (0 : Int)) ∧ Wr ((0 : Int) = (0 : Int)) ∧ Wr (x.fst = x.fst) ∧ Wr (x.snd.fst = x.snd.fst) ∧ Wr ((↑(List.length x.fst) : Int)
  = (↑(List.length x.fst) : Int))) ∧ ∀ (x_1 : Int), Wr (EqI x.fst x_1) → bcase (Decidable.decide (x_1 < (↑(List.length x.fst) : Int))) (Wr ((0 : Int) ≤ x_1) ∧ Wr (x_1 < (↑(List.length x.fst) : Int)) ∧ Wr (Bool.true =
  Bool.true) ∧ Wr ((0 : Int) ≤ x_1) ∧ Wr (x_1 < (↑(List.length x.snd.fst) : Int)) ∧ Wr (Bool.true = Bool.true) ∧ bcase (!Ty.eqb (Ty.cons (Ty.int IntKind.i64) (Ty.cons (Ty.int IntKind.i64) Ty.unit)) (List.getD x.fst
  (Int.toNat x_1) (Ty.zero RestT)) (List.getD x.snd.fst (Int.toNat x_1) (Ty.zero RestT))) ((Bool.false, ()) = (Bool.true, ())) (Wr (EqI x.fst (IntKind.wrap IntKind.i64 (x_1 + (1 : Int)))) ∧ Wr (List.length x.fst -
  Int.toNat (IntKind.wrap IntKind.i64 (x_1 + (1 : Int))) < List.length x.fst - Int.toNat x_1) ∧ Wr (IntKind.wrap IntKind.i64 (x_1 + (1 : Int)) = IntKind.wrap IntKind.i64 (x_1 + (1 : Int))) ∧ Wr (x.fst = x.fst) ∧ Wr
  (x.snd.fst = x.snd.fst) ∧ Wr ((↑(List.length x.fst) : Int) = (↑(List.length x.fst) : Int)))) ((Bool.true, ()) = (Bool.true, ())))) := by kernel_rfl
theorem v55_eq : vcFn g55 300 Try.f55 ((cSam ScT)).T = ( ∀ (x : List ((Int × (Int × Int × Int × Int × Int × Int × Int × Int × Unit) × Int × Unit) × Int × Unit) × List ((Int × (Int × Int × Int × Int × Int × Int × Int × Int × Unit) × Int × Unit) × Int × Unit) × Unit), Wr (typedB
  (Ty.cons (Ty.sl ScT) (Ty.cons (Ty.sl ScT) Ty.unit)) x = Bool.true ∧ x.fst = x.snd.fst) → bcase (!Decidable.decide ((↑(List.length x.fst) : Int) = (↑(List.length x.snd.fst) : Int))) ((Bool.false, ()) = (Bool.true, ()))
  ((Wr (EqI x.fst (0 : Int)) ∧ Wr ((0 : Int) = (0 : Int)) ∧ Wr (x.fst = x.fst) ∧ Wr (x.snd.fst = x.snd.fst) ∧ Wr ((↑(List.length x.fst) : Int) = (↑(List.length x.fst) : Int))) ∧ ∀ (x_1 : Int), Wr (EqI x.fst x_1) → bcase
  (Decidable.decide (x_1 < (↑(List.length x.fst) : Int))) (Wr ((0 : Int) ≤ x_1) ∧ Wr (x_1 < (↑(List.length x.fst) : Int)) ∧ Wr (Bool.true = Bool.true) ∧ Wr ((0 : Int) ≤ x_1) ∧ Wr (x_1 < (↑(List.length x.snd.fst) : Int)) ∧
  Wr (Bool.true = Bool.true) ∧ bcase (!Ty.eqb (Ty.cons (Ty.cons (Ty.int IntKind.i8) (Ty.cons (Ty.arr (8 : Nat) (Ty.int IntKind.u16)) (Ty.cons (Ty.int IntKind.i64) Ty.unit))) (Ty.cons (Ty.int IntKind.i64) Ty.unit))
  (List.getD x.fst (Int.toNat x_1) (Ty.zero ScT)) (List.getD x.snd.fst (Int.toNat x_1) (Ty.zero ScT))) ((Bool.false, ()) = (Bool.true, ())) (Wr (EqI x.fst (IntKind.wrap IntKind.i64 (x_1 + (1 : Int)))) ∧ Wr (List.length
  x.fst - Int.toNat (IntKind.wrap IntKind.i64 (x_1 + (1 : Int))) < List.length x.fst - Int.toNat x_1) ∧ Wr (IntKind.wrap IntKind.i64 (x_1 + (1 : Int)) = IntKind.wrap IntKind.i64 (x_1 + (1 : Int))) ∧ Wr (x.fst = x.fst) ∧
  Wr (x.snd.fst = x.snd.fst) ∧ Wr ((↑(List.length x.fst) : Int) = (↑(List.length x.fst) : Int)))) ((Bool.true, ()) = (Bool.true, ())))) := by kernel_rfl
theorem v32_eq : vcFn g32 300 Try.f32 ((cSam RestT)) = ( ∀ (x : List (Int × Int × Unit) × List (Int × Int × Unit) × Unit), Wr (x.fst = x.snd.fst) → Wr (x.fst = x.snd.fst) ∧ (Bool.true, ()) = (Bool.true, ())) := by kernel_rfl
theorem v34_eq : vcFn g34 300 Try.f34 ((cSam ScT)) = ( ∀ (x : List ((Int × (Int × Int × Int × Int × Int × Int × Int × Int × Unit) × Int × Unit) × Int × Unit) × List ((Int × (Int × Int × Int × Int × Int × Int × Int × Int × Unit) × Int × Unit) × Int × Unit) × Unit), Wr (x.fst
  = x.snd.fst) → Wr (x.fst = x.snd.fst) ∧ (Bool.true, ()) = (Bool.true, ())) := by kernel_rfl
theorem v11_eq : vcFn g11 300 Try.f11 cSameB = ( ∀ (x : ((Int × Int × Int × Int × Int × Int × Int × Int × Int × Unit) × List (Int × Int × Unit) × List Int × List Int × (Int × Bool × Int × Unit) × List ((Int × (Int × Int × Int × Int × Int × Int × Int × Int × Unit) × Int
  × Unit) × Int × Unit) × Bool × Unit) × ((Int × Int × Int × Int × Int × Int × Int × Int × Int × Unit) × List (Int × Int × Unit) × List Int × List Int × (Int × Bool × Int × Unit) × List ((Int × (Int × Int × Int × Int ×
  Int × Int × Int × Int × Unit) × Int × Unit) × Int × Unit) × Bool × Unit) × Unit), Wr (x.fst = x.snd.fst) → Wr ((Ty.eqb (Ty.cons (Ty.int IntKind.i64) (Ty.cons (Ty.int IntKind.i64) (Ty.cons (Ty.int IntKind.i64) (Ty.cons
  (Ty.int IntKind.i64) (Ty.cons (Ty.int IntKind.i64) (Ty.cons (Ty.int IntKind.i64) (Ty.cons (Ty.int IntKind.i64) (Ty.cons (Ty.int IntKind.i64) (Ty.cons (Ty.int IntKind.i64) Ty.unit))))))))) x.fst.fst x.snd.fst.fst &&
  Ty.eqb (Ty.cons (Ty.int IntKind.i64) (Ty.cons Ty.bool (Ty.cons (Ty.int IntKind.i64) Ty.unit))) x.fst.snd.snd.snd.snd.fst x.snd.fst.snd.snd.snd.snd.fst && x.fst.snd.snd.snd.snd.snd.snd.fst ==
  x.snd.fst.snd.snd.snd.snd.snd.snd.fst) = Bool.true → x.fst.snd.fst = x.snd.fst.snd.fst) ∧ Wr ((Ty.eqb (Ty.cons (Ty.int IntKind.i64) (Ty.cons (Ty.int IntKind.i64) (Ty.cons (Ty.int IntKind.i64) (Ty.cons (Ty.int
  IntKind.i64) (Ty.cons (Ty.int IntKind.i64) (Ty.cons (Ty.int IntKind.i64) (Ty.cons (Ty.int IntKind.i64) (Ty.cons (Ty.int IntKind.i64) (Ty.cons (Ty.int IntKind.i64) Ty.unit))))))))) x.fst.fst x.snd.fst.fst && Ty.eqb
  (Ty.cons (Ty.int IntKind.i64) (Ty.cons Ty.bool (Ty.cons (Ty.int IntKind.i64) Ty.unit))) x.fst.snd.snd.snd.snd.fst x.snd.fst.snd.snd.snd.snd.fst && x.fst.snd.snd.snd.snd.snd.snd.fst ==
  x.snd.fst.snd.snd.snd.snd.snd.snd.fst && Bool.true) = Bool.true → x.fst.snd.snd.fst = x.snd.fst.snd.snd.fst) ∧ Wr ((Ty.eqb (Ty.cons (Ty.int IntKind.i64) (Ty.cons (Ty.int IntKind.i64) (Ty.cons (Ty.int IntKind.i64)
  (Ty.cons (Ty.int IntKind.i64) (Ty.cons (Ty.int IntKind.i64) (Ty.cons (Ty.int IntKind.i64) (Ty.cons (Ty.int IntKind.i64) (Ty.cons (Ty.int IntKind.i64) (Ty.cons (Ty.int IntKind.i64) Ty.unit))))))))) x.fst.fst
  x.snd.fst.fst && Ty.eqb (Ty.cons (Ty.int IntKind.i64) (Ty.cons Ty.bool (Ty.cons (Ty.int IntKind.i64) Ty.unit))) x.fst.snd.snd.snd.snd.fst x.snd.fst.snd.snd.snd.snd.fst && x.fst.snd.snd.snd.snd.snd.snd.fst ==
  x.snd.fst.snd.snd.snd.snd.snd.snd.fst && Bool.true && Bool.true) = Bool.true → x.fst.snd.snd.snd.fst = x.snd.fst.snd.snd.snd.fst) ∧ Wr ((Ty.eqb (Ty.cons (Ty.int IntKind.i64) (Ty.cons (Ty.int IntKind.i64) (Ty.cons
  (Ty.int IntKind.i64) (Ty.cons (Ty.int IntKind.i64) (Ty.cons (Ty.int IntKind.i64) (Ty.cons (Ty.int IntKind.i64) (Ty.cons (Ty.int IntKind.i64) (Ty.cons (Ty.int IntKind.i64) (Ty.cons (Ty.int IntKind.i64) Ty.unit)))))))))
  x.fst.fst x.snd.fst.fst && Ty.eqb (Ty.cons (Ty.int IntKind.i64) (Ty.cons Ty.bool (Ty.cons (Ty.int IntKind.i64) Ty.unit))) x.fst.snd.snd.snd.snd.fst x.snd.fst.snd.snd.snd.snd.fst && x.fst.snd.snd.snd.snd.snd.snd.fst ==
  x.snd.fst.snd.snd.snd.snd.snd.snd.fst && Bool.true && Bool.true && Bool.true) = Bool.true → x.fst.snd.snd.snd.snd.snd.fst = x.snd.fst.snd.snd.snd.snd.snd.fst) ∧ (Ty.eqb (Ty.cons (Ty.int IntKind.i64) (Ty.cons (Ty.int
  IntKind.i64) (Ty.cons (Ty.int IntKind.i64) (Ty.cons (Ty.int IntKind.i64) (Ty.cons (Ty.int IntKind.i64) (Ty.cons (Ty.int IntKind.i64) (Ty.cons (Ty.int IntKind.i64) (Ty.cons (Ty.int IntKind.i64) (Ty.cons (Ty.int
  IntKind.i64) Ty.unit))))))))) x.fst.fst x.snd.fst.fst && Ty.eqb (Ty.cons (Ty.int IntKind.i64) (Ty.cons Ty.bool (Ty.cons (Ty.int IntKind.i64) Ty.unit))) x.fst.snd.snd.snd.snd.fst x.snd.fst.snd.snd.snd.snd.fst &&
  x.fst.snd.snd.snd.snd.snd.snd.fst == x.snd.fst.snd.snd.snd.snd.snd.snd.fst && Bool.true && Bool.true && Bool.true && Bool.true, ()) = (Bool.true, ())) := by kernel_rfl
theorem v12_eq : vcFn g12 300 Try.f12 ((cSam I64)).T = ( ∀ (x : List Int × List Int × Unit), Wr (typedB (Ty.cons (Ty.sl I64) (Ty.cons (Ty.sl I64) Ty.unit)) x = Bool.true ∧ x.fst = x.snd.fst) → bcase (!Decidable.decide ((↑(List.length x.fst) : Int) = (↑(List.length x.snd.fst) :
  Int))) ((Bool.false, ()) = (Bool.true, ())) ((Wr (EqI x.fst (0 : Int)) ∧ Wr ((0 : Int) = (0 : Int)) ∧ Wr (x.fst = x.fst) ∧ Wr (x.snd.fst = x.snd.fst)) ∧ ∀ (x_1 : Int), Wr (EqI x.fst x_1) → bcase (Decidable.decide (x_1 <
  (↑(List.length x.fst) : Int))) (Wr ((0 : Int) ≤ x_1) ∧ Wr (x_1 < (↑(List.length x.fst) : Int)) ∧ Wr (Bool.true = Bool.true) ∧ Wr ((0 : Int) ≤ x_1) ∧ Wr (x_1 < (↑(List.length x.snd.fst) : Int)) ∧ Wr (Bool.true =
  Bool.true) ∧ bcase (!Decidable.decide (List.getD x.fst (Int.toNat x_1) (0 : Int) = List.getD x.snd.fst (Int.toNat x_1) (0 : Int))) ((Bool.false, ()) = (Bool.true, ())) (Wr (EqI x.fst (IntKind.wrap IntKind.i64 (x_1 + (1
  : Int)))) ∧ Wr (List.length x.fst - Int.toNat (IntKind.wrap IntKind.i64 (x_1 + (1 : Int))) < List.length x.fst - Int.toNat x_1) ∧ Wr (IntKind.wrap IntKind.i64 (x_1 + (1 : Int)) = IntKind.wrap IntKind.i64 (x_1 + (1 :
  Int))) ∧ Wr (x.fst = x.fst) ∧ Wr (x.snd.fst = x.snd.fst))) ((Bool.true, ()) = (Bool.true, ())))) := by kernel_rfl
theorem v9_eq : vcFn g9 300 Try.f9 cQuit = ( ∀ (x : ((Int × Int × Int × Int × Int × Int × Int × Int × Int × Unit) × List (Int × Int × Unit) × List Int × List Int × (Int × Bool × Int × Unit) × List ((Int × (Int × Int × Int × Int × Int × Int × Int × Int × Unit) × Int
  × Unit) × Int × Unit) × Bool × Unit) × Int × Unit), Wr (okW x.fst = Bool.true) → Wr (Bool.true = Bool.true) ∧ bcase (Decidable.decide (idxN x.snd.fst x.fst.snd.snd.snd.fst ≥ (0 : Int))) (Wr (Decidable.decide
  (List.length x.fst.snd.snd.snd.fst * (8 : Nat) ≤ (140737488355328 : Nat)) = Bool.true) ∧ Wr ((0 : Ty.El I64) ≤ idxN x.snd.fst x.fst.snd.snd.snd.fst ∧ idxN x.snd.fst x.fst.snd.snd.snd.fst ≤ IntKind.wrap IntKind.i64 (idxN
  x.snd.fst x.fst.snd.snd.snd.fst + (1 : Int)) ∧ IntKind.wrap IntKind.i64 (idxN x.snd.fst x.fst.snd.snd.snd.fst + (1 : Int)) ≤ (↑(List.length x.fst.snd.snd.snd.fst) : Int) ∧ List.length x.fst.snd.snd.snd.fst ≤ (1000000000
  : Nat)) ∧ Wr (List.length ((x.snd.fst, (-1 : Int), (191 : Int), ()) :: nilL (Int × Int × Int × Unit)) * (24 : Nat) ≤ (140737488355328 : Nat)) ∧ Wr (Bool.true = Bool.true) ∧ Wr ((!x.fst.snd.snd.snd.snd.snd.snd.fst) =
  Bool.true → Bool.true = Bool.true) ∧ ((x.fst.fst, x.fst.snd.fst, x.fst.snd.snd.fst, delL x.fst.snd.snd.snd.fst (idxN x.snd.fst x.fst.snd.snd.snd.fst) (IntKind.wrap IntKind.i64 (idxN x.snd.fst x.fst.snd.snd.snd.fst + (1
  : Int))), partF x.fst.snd.snd.snd.snd.fst (1 : Int), x.fst.snd.snd.snd.snd.snd), ((x.snd.fst, (-1 : Int), (191 : Int), ()) :: nilL (Int × Int × Int × Unit), nilL Int, !x.fst.snd.snd.snd.snd.snd.snd.fst && startsF (partF
  x.fst.snd.snd.snd.snd.fst (1 : Int)), Bool.false || partC x.fst.snd.snd.snd.snd.fst (1 : Int), ()), ()) = (quitB x.fst x.snd.fst, quitT x.fst x.snd.fst, ())) (Wr ((!x.fst.snd.snd.snd.snd.snd.snd.fst) = Bool.true →
  Bool.true = Bool.true) ∧ (x.fst, (nilL (Int × Int × Int × Unit), nilL Int, !x.fst.snd.snd.snd.snd.snd.snd.fst && startsF x.fst.snd.snd.snd.snd.fst, Bool.false, ()), ()) = (quitB x.fst x.snd.fst, quitT x.fst x.snd.fst,
  ()))) := by kernel_rfl
end Go.Proofs.Ytdkcgcgefgeooaa.Bk
set_option linter.all false
namespace Go.Proofs.Ytdkcgcgefgeooaa.Bk
open Go Go.Eng Go.RowKit
set_option maxRecDepth 100000
set_option maxHeartbeats 8000000
abbrev GW (_ : World) : Prop := True
theorem gws : ∀ w w', Below w.heap.size w w' → GW w → GW w' := fun _ _ _ _ => trivial
theorem IdI.zero (x : Int) (l : List Int) : IdI x l 0 := ⟨by omega, by omega, rfl⟩
theorem IdI.succ {x : Int} {l : List Int} {i : Int} (h : IdI x l i) (hl : l.length ≤ 9223372036854775807) (hi : i < l.length) (hx : l.getD i.toNat 0 ≠ x) :
    IdI x l (IntKind.wrap .i64 (i + 1)) ∧ l.length - (IntKind.wrap .i64 (i + 1)).toNat < l.length - i.toNat := by
  have h0 := h.i0
  have e : IntKind.wrap .i64 (i + 1) = i + 1 := wrap_id (by omega) (by omega)
  rw [e]
  refine ⟨⟨by omega, by omega, ?_⟩, by omega⟩
  rw [take_succ l i 0 h0 hi, List.any_append, h.a, List.any_cons, List.any_nil, decide_eq_false hx]
  rfl
theorem idx_split (x : Int) (l : List Int) (i : Nat) (hi : i < l.length) (h : (l.take i).any (fun y => decide (y = x)) = false) (hx : l.getD i 0 = x) : idxN x l = i := by
  unfold idxN
  have e : l = l.take i ++ x :: l.drop (i + 1) := by
    have hg : l[i] = x := by rw [← hx, List.getD_eq_getElem?_getD, List.getElem?_eq_getElem hi]; rfl
    rw [← hg, ← List.drop_eq_getElem_cons hi, List.take_append_drop]
  have ha : l.any (fun y => decide (y = x)) = true := by
    rw [e, List.any_append, List.any_cons]; simp
  rw [ha, cond_true]
  have hf : l.findIdx (fun y => decide (y = x)) = i := by
    rw [e, List.findIdx_append]
    have hn : (l.take i).findIdx (fun y => decide (y = x)) = (l.take i).length := by
      rw [List.findIdx_eq_length]
      intro y hy
      rw [List.any_eq_false] at h
      simpa using h y hy
    rw [hn, if_neg (by omega), List.findIdx_cons]
    simp; omega
  rw [hf]
theorem idx_none {x : Int} {l : List Int} (h : l.any (fun y => decide (y = x)) = false) : idxN x l = -1 := by unfold idxN; rw [h]; rfl
theorem IdI.hit {x : Int} {l : List Int} {i : Int} (h : IdI x l i) (hi : i < l.length) (hx : l.getD i.toNat 0 = x) : i = idxN x l := by
  have h0 := h.i0
  rw [idx_split x l i.toNat (by omega) h.a hx]; omega
theorem IdI.done {x : Int} {l : List Int} {i : Int} (h : IdI x l i) (hi : ¬ i < l.length) : (-1 : Int) = idxN x l := by
  have e : l.take i.toNat = l := List.take_of_length_le (by have := h.i0; omega)
  have := h.a
  rw [e] at this
  rw [idx_none this]
theorem v39 : Vc g39 300 Try.f39 cOn := by
  constructor
  rw [v39_eq]
  simp only [Wr_iff, bcase_iff, true_and, and_true, decide_eq_true_eq, decide_eq_false_iff_not, Bool.and_eq_true, Bool.and_eq_false_iff, Bool.or_eq_true, Bool.or_eq_false_iff, Bool.not_eq_true', Bool.not_eq_false', Option.map_some, Option.getD_some, Option.isSome_some, Option.isSome_map, imp_self, nilL, noneO]
  intro x _
  rfl
theorem v46 : Vc g46 300 Try.f46 cIdx.T := by
  constructor
  rw [v46_eq]
  simp only [Wr_iff, bcase_iff, true_and, and_true, decide_eq_true_eq, decide_eq_false_iff_not, Bool.and_eq_true, Bool.and_eq_false_iff, Bool.or_eq_true, Bool.or_eq_false_iff, Bool.not_eq_true', Bool.not_eq_false', Option.map_some, Option.getD_some, Option.isSome_some, Option.isSome_map, imp_self, nilL, noneO]
  rintro ⟨l, x, ⟨⟩⟩ ht
  have hl : l.length ≤ 9223372036854775807 := by
    simp only [typedB, Bool.and_eq_true, decide_eq_true_eq] at ht
    exact ht.1.1
  dsimp only
  refine ⟨IdI.zero _ _, fun i hu => ⟨fun hi => ⟨hu.i0, hi, fun hg => ?_, fun hg => hu.succ hl hi fun e => hg e.symm⟩, fun hi => ?_⟩⟩
  · rw [← hu.hit hi hg.symm]
  · rw [← hu.done hi]
theorem v43 : Vc g43 300 Try.f43 cIdx.T := by
  constructor
  rw [v43_eq]
  simp only [Wr_iff, bcase_iff, true_and, and_true, decide_eq_true_eq, decide_eq_false_iff_not, Bool.and_eq_true, Bool.and_eq_false_iff, Bool.or_eq_true, Bool.or_eq_false_iff, Bool.not_eq_true', Bool.not_eq_false', Option.map_some, Option.getD_some, Option.isSome_some, Option.isSome_map, imp_self, nilL, noneO]
  rintro ⟨l, x, ⟨⟩⟩ ht
  have hl : l.length ≤ 9223372036854775807 := by
    simp only [typedB, Bool.and_eq_true, decide_eq_true_eq] at ht
    exact ht.1.1
  dsimp only
  refine ⟨IdI.zero _ _, fun i hu => ⟨fun hi => ⟨hu.i0, hi, fun hg => ?_, fun hg => hu.succ hl hi hg⟩, fun hi => ?_⟩⟩
  · rw [← hu.hit hi hg]
  · rw [← hu.done hi]
theorem v48 : Vc g48 300 Try.f48 (cClone 3 8 I64) := by
  constructor
  rw [v48_eq]
  simp only [Wr_iff, bcase_iff, true_and, and_true, decide_eq_true_eq, decide_eq_false_iff_not, Bool.and_eq_true, Bool.and_eq_false_iff, Bool.or_eq_true, Bool.or_eq_false_iff, Bool.not_eq_true', Bool.not_eq_false', Option.map_some, Option.getD_some, Option.isSome_some, Option.isSome_map, imp_self, nilL, noneO]
  rintro ⟨l, ⟨⟩⟩ h b hb
  dsimp only at *
  exact ⟨hb, fun _ => ⟨by simpa using h, by simp⟩⟩
theorem typ_i64 {n : Int} (h : IntKind.wrap .i64 n = n) : -9223372036854775808 ≤ n ∧ n ≤ 9223372036854775807 := by
  simp only [IntKind.wrap, IntKind.signed, IntKind.bits] at h
  simp at h
  omega
theorem v71 : Vc g71 300 Try.f71 cPart.T := by
  constructor
  rw [v71_eq]
  simp only [Wr_iff, bcase_iff, true_and, and_true, decide_eq_true_eq, decide_eq_false_iff_not, Bool.and_eq_true, Bool.and_eq_false_iff, Bool.or_eq_true, Bool.or_eq_false_iff, Bool.not_eq_true', Bool.not_eq_false', Option.map_some, Option.getD_some, Option.isSome_some, Option.isSome_map, imp_self, nilL, noneO]
  rintro ⟨⟨r, g, k, ⟨⟩⟩, n, ⟨⟩⟩ ht
  have h2 : (-9223372036854775808 ≤ k ∧ k ≤ 9223372036854775807) ∧ (-9223372036854775808 ≤ n ∧ n ≤ 9223372036854775807) := by
    simp only [typedB, Bool.and_eq_true, decide_eq_true_eq, Bool.true_and, Bool.and_true, and_true, true_and] at ht
    exact ⟨typ_i64 ht.1.2, typ_i64 ht.2⟩
  dsimp only
  have e : IntKind.wrap .i64 (max k 0 - max n 0) = max k 0 - max n 0 := wrap_id (by omega) (by omega)
  rw [e]
  simp only [partF, partC, partN, onF, decide_eq_true_eq, decide_eq_false_iff_not]
  constructor
  · rintro ⟨⟨h1, h2⟩, h3⟩
    simp [h1, h2, h3]
  · intro h
    rcases h with (h1 | h2) | h3
    · simp [h1]
    · simp [h2]
    · simp [h3]
theorem v70 : Vc g70 300 Try.f70 cStarts := by
  constructor
  rw [v70_eq]
  simp only [Wr_iff, bcase_iff, true_and, and_true, decide_eq_true_eq, decide_eq_false_iff_not, Bool.and_eq_true, Bool.and_eq_false_iff, Bool.or_eq_true, Bool.or_eq_false_iff, Bool.not_eq_true', Bool.not_eq_false', Option.map_some, Option.getD_some, Option.isSome_some, Option.isSome_map, imp_self, nilL, noneO]
  intro x _
  rfl
theorem v62 : Vc g62 300 Try.f62 cJoin := by
  constructor
  rw [v62_eq]
  simp only [Wr_iff, bcase_iff, true_and, and_true, decide_eq_true_eq, decide_eq_false_iff_not, Bool.and_eq_true, Bool.and_eq_false_iff, Bool.or_eq_true, Bool.or_eq_false_iff, Bool.not_eq_true', Bool.not_eq_false', Option.map_some, Option.getD_some, Option.isSome_some, Option.isSome_map, imp_self, nilL, noneO]
  rintro ⟨⟨r, g, k, ⟨⟩⟩, l, ⟨⟩⟩ ⟨h1, h2⟩
  dsimp only at *
  rw [h2, wrap_id (by omega) (by omega)]
  rfl
theorem v65 : Vc g65 300 Try.f65 cEnd := by
  constructor
  rw [v65_eq]
  simp only [Wr_iff, bcase_iff, true_and, and_true, decide_eq_true_eq, decide_eq_false_iff_not, Bool.and_eq_true, Bool.and_eq_false_iff, Bool.or_eq_true, Bool.or_eq_false_iff, Bool.not_eq_true', Bool.not_eq_false', Option.map_some, Option.getD_some, Option.isSome_some, Option.isSome_map, imp_self, nilL, noneO]
  intro x _
  rfl
theorem v44 : Vc g44 300 Try.f44 cBegin := by
  constructor
  rw [v44_eq]
  simp only [Wr_iff, bcase_iff, true_and, and_true, decide_eq_true_eq, decide_eq_false_iff_not, Bool.and_eq_true, Bool.and_eq_false_iff, Bool.or_eq_true, Bool.or_eq_false_iff, Bool.not_eq_true', Bool.not_eq_false', Option.map_some, Option.getD_some, Option.isSome_some, Option.isSome_map, imp_self, nilL, noneO]
  rintro ⟨⟨r, g, k, ⟨⟩⟩, n, ⟨⟩⟩ _
  simp only [beginF, beginE, onF, decide_eq_true_eq, decide_eq_false_iff_not]
  constructor
  · rintro (h | h) <;> simp [h]
  · rintro ⟨h1, h2⟩; simp [h1, h2]
theorem v30 : Vc g30 300 Try.f30 cFlCk := by
  constructor
  rw [v30_eq]
  simp only [Wr_iff, bcase_iff, true_and, and_true, decide_eq_true_eq, decide_eq_false_iff_not, Bool.and_eq_true, Bool.and_eq_false_iff, Bool.or_eq_true, Bool.or_eq_false_iff, Bool.not_eq_true', Bool.not_eq_false', Option.map_some, Option.getD_some, Option.isSome_some, Option.isSome_map, imp_self, nilL, noneO]
  rintro ⟨⟨r, g, k, ⟨⟩⟩, ⟨⟩⟩ _
  refine ⟨fun _ => trivial, ?_⟩
  simp only [flCk, flB, onF, decide_eq_true_eq, decide_eq_false_iff_not]
  constructor
  · rintro ((h | h) | ⟨h1, h2⟩)
    · simp [Int.not_le.2 h]
    · simp [Int.not_le.2 h]
    · simp [h1, h2]
  · rintro ⟨⟨h1, h2⟩, h3⟩
    rw [Int.not_lt] at h1 h2
    rcases h3 with h3 | h3
    · simp [h1, h2, h3]
    · simp [h1, h2, h3]
theorem v24 : Vc g24 300 Try.f24 cFlCk := by
  constructor
  rw [v24_eq]
  simp only [Wr_iff, bcase_iff, true_and, and_true, decide_eq_true_eq, decide_eq_false_iff_not, Bool.and_eq_true, Bool.and_eq_false_iff, Bool.or_eq_true, Bool.or_eq_false_iff, Bool.not_eq_true', Bool.not_eq_false', Option.map_some, Option.getD_some, Option.isSome_some, Option.isSome_map, imp_self, nilL, noneO]
  rintro ⟨⟨r, g, k, ⟨⟩⟩, ⟨⟩⟩ _
  simp only [flCk, flB, onF, decide_eq_true_eq, decide_eq_false_iff_not]
  constructor
  · rintro ((h | h) | ⟨h1, h2⟩)
    · simp [Int.not_le.2 h]
    · simp [Int.not_le.2 h]
    · simp [h1, Int.not_le.2 h2]
  · rintro ⟨⟨h1, h2⟩, h3⟩
    rw [Int.not_lt] at h1 h2
    rcases h3 with h3 | h3
    · simp [h1, h2, h3]
    · simp [h1, h2, Int.not_lt.1 h3]
theorem OwI.zero (l : List Rs) : OwI l 0 [] := ⟨by omega, by omega, rfl⟩
theorem OwI.succ {l : List Rs} {i : Int} {o : List Int} (h : OwI l i o) (hl : l.length ≤ 1000000) (hi : i < l.length) :
    OwI l (IntKind.wrap .i64 (i + 1)) (o ++ [(l.getD i.toNat (Ty.zero RestT)).1]) ∧ l.length - (IntKind.wrap .i64 (i + 1)).toNat < l.length - i.toNat := by
  have h0 := h.i0
  have e : IntKind.wrap .i64 (i + 1) = i + 1 := wrap_id (by omega) (by omega)
  rw [e]
  refine ⟨⟨by omega, by omega, ?_⟩, by omega⟩
  rw [take_succ l i (Ty.zero RestT) h0 hi, List.map_append, h.a]
  rfl
theorem OwI.len {l : List Rs} {i : Int} {o : List Int} (h : OwI l i o) : o.length ≤ l.length := by rw [h.a, List.length_map, List.length_take]; omega
theorem OwI.done {l : List Rs} {i : Int} {o : List Int} (h : OwI l i o) (hi : ¬ i < l.length) : o = l.map skOf := by
  rw [h.a, List.take_of_length_le (by have := h.i0; omega)]
theorem szB_iff (b : Bk) : szB b = true ↔ (b.2.1.length ≤ 1000000 ∧ b.2.2.1.length ≤ 1000000 ∧ b.2.2.2.1.length ≤ 1000000 ∧ b.2.2.2.2.2.1.length ≤ 1000000 ∧ b.2.2.2.2.1.2.2.1 ≤ 1152921504606846976) := by
  simp only [szB, szI, Bool.and_eq_true, decide_eq_true_eq]
theorem v13 : Vc g13 300 Try.f13 cOwns := by
  constructor
  rw [v13_eq]
  simp only [Wr_iff, bcase_iff, true_and, and_true, decide_eq_true_eq, decide_eq_false_iff_not, Bool.and_eq_true, Bool.and_eq_false_iff, Bool.or_eq_true, Bool.or_eq_false_iff, Bool.not_eq_true', Bool.not_eq_false', Option.map_some, Option.getD_some, Option.isSome_some, Option.isSome_map, imp_self, nilL, noneO]
  rintro ⟨b, ⟨⟩⟩ hb
  dsimp only at hb ⊢
  rw [szB_iff] at hb
  refine ⟨OwI.zero _, fun ⟨i, o⟩ hu => ⟨fun hi => ⟨hu.i0, hi, ?_, hu.succ hb.1 hi⟩, fun hi => ⟨?_, ?_⟩⟩⟩
  · have h2 : o.length ≤ _ := hu.len
    simp only [List.length_cons, List.length_nil]
    omega
  · have h2 : o.length ≤ _ := hu.len
    dsimp only
    omega
  · rw [ownsL, ← hu.done hi]
theorem v23 : Vc g23 300 Try.f23 cOwns := by
  constructor
  rw [v23_eq]
  simp only [Wr_iff, bcase_iff, true_and, and_true, decide_eq_true_eq, decide_eq_false_iff_not, Bool.and_eq_true, Bool.and_eq_false_iff, Bool.or_eq_true, Bool.or_eq_false_iff, Bool.not_eq_true', Bool.not_eq_false', Option.map_some, Option.getD_some, Option.isSome_some, Option.isSome_map, imp_self, nilL, noneO]
  rintro ⟨b, ⟨⟩⟩ hb
  dsimp only at hb ⊢
  rw [szB_iff] at hb
  refine ⟨OwI.zero _, fun ⟨i, o⟩ hu => ⟨fun hi => ⟨hu.i0, hi, ?_, hu.succ hb.1 hi⟩, fun hi => ⟨?_, ?_⟩⟩⟩
  · have h2 : o.length ≤ _ := hu.len
    simp only [List.length_cons, List.length_nil]
    omega
  · have h2 : o.length ≤ _ := hu.len
    dsimp only
    omega
  · rw [ownsL, ← hu.done hi]
theorem TwI.zero (l : List Int) : TwI l 0 := ⟨by omega, by omega, List.nodup_nil⟩
theorem notin_take {l : List Int} {i : Nat} (hi : i < l.length) (h : idxN (l.getD i 0) l = i) : l.getD i 0 ∉ l.take i := by
  intro hm
  obtain ⟨j, hj, he⟩ := List.mem_iff_getElem.1 hm
  rw [List.length_take] at hj
  rw [List.getElem_take] at he
  unfold idxN at h
  have ha : l.any (fun y => decide (y = l.getD i 0)) = true := List.any_eq_true.2 ⟨_, List.mem_of_mem_take hm, by simp⟩
  rw [ha, cond_true] at h
  have h2 : l.findIdx (fun y => decide (y = l.getD i 0)) = i := by omega
  have h3 := List.not_of_lt_findIdx (p := fun y => decide (y = l.getD i 0)) (xs := l) (i := j) (by omega)
  simp [he] at h3
theorem in_take {l : List Int} {i : Nat} (hi : i < l.length) (h : idxN (l.getD i 0) l ≠ i) : l.getD i 0 ∈ l.take i := by
  apply Classical.byContradiction
  intro hn
  apply h
  apply idx_split _ _ _ hi _ rfl
  rw [List.any_eq_false]
  intro y hy
  simp only [decide_eq_true_eq]
  intro e
  exact hn (e ▸ hy)
theorem TwI.succ {l : List Int} {i : Int} (h : TwI l i) (hl : l.length ≤ 3000000) (hi : i < l.length) (hx : idxN (l.getD i.toNat 0) l = i) :
    TwI l (IntKind.wrap .i64 (i + 1)) ∧ l.length - (IntKind.wrap .i64 (i + 1)).toNat < l.length - i.toNat := by
  have h0 := h.i0
  have e : IntKind.wrap .i64 (i + 1) = i + 1 := wrap_id (by omega) (by omega)
  rw [e]
  refine ⟨⟨by omega, by omega, ?_⟩, by omega⟩
  rw [take_succ l i 0 h0 hi, List.nodup_append]
  refine ⟨h.a, by simp, ?_⟩
  intro a ha b hb
  rw [List.mem_singleton] at hb
  subst hb
  intro e
  exact notin_take (i := i.toNat) (by omega) (by omega) (e ▸ ha)
theorem v25 : Vc g25 300 Try.f25 cTwice3 := by
  constructor
  rw [v25_eq]
  simp only [Wr_iff, bcase_iff, true_and, and_true, decide_eq_true_eq, decide_eq_false_iff_not, Bool.and_eq_true, Bool.and_eq_false_iff, Bool.or_eq_true, Bool.or_eq_false_iff, Bool.not_eq_true', Bool.not_eq_false', Option.map_some, Option.getD_some, Option.isSome_some, Option.isSome_map, imp_self, nilL, noneO]
  rintro ⟨l, ⟨⟩⟩ hl
  dsimp only at hl ⊢
  refine ⟨TwI.zero _, fun i hu => ⟨fun hi => ⟨hu.i0, hi, fun hg => ?_, fun hg => hu.succ hl hi hg⟩, fun hi => ?_⟩⟩
  · have h0 := hu.i0
    have hm := in_take (l := l) (i := i.toNat) (by omega) (by omega)
    have hn : ¬ l.Nodup := by
      intro hd
      have e := take_succ l i 0 h0 hi
      have hd2 : (l.take (i + 1).toNat).Nodup := List.Nodup.sublist (List.take_sublist _ _) hd
      rw [e, List.nodup_append] at hd2
      exact hd2.2.2 _ hm _ (List.mem_singleton.2 rfl) rfl
    rw [twB, decide_eq_false hn]; rfl
  · have e : l.take i.toNat = l := List.take_of_length_le (by have := hu.i0; omega)
    have hn := hu.a
    rw [e] at hn
    rw [twB, decide_eq_true hn]; rfl
theorem flCk_0 (f : Fl) : flCk f = 0 ↔ flB f = true := by unfold flCk; cases flB f <;> simp
theorem owns_len (b : Bk) : (ownsL b).length = b.2.1.length + b.2.2.1.length := by rw [ownsL, List.length_append, List.length_map]
theorem ck_yes {b : Bk} (h1 : flB b.2.2.2.2.1 = true) (h2 : b.2.2.2.2.1.2.2.1 = (b.2.2.2.1.length : Int)) (h3 : (b.2.1.length : Int) ≤ b.1.2.1) (h4 : (ownsL b).Nodup) (h5 : b.2.2.2.1.Nodup)
    (h6 : ¬ (0 < (b.2.2.2.1.length : Int) ∧ 0 < (b.2.1.length : Int))) (h7 : b.2.2.2.2.2.2.1 = false ∨ ¬ 0 < ((ownsL b).length : Int) + (b.2.2.2.1.length : Int)) : ckE b = 0 := by
  have : ckB b = true := by
    simp only [ckB, Bool.and_eq_true, Bool.or_eq_true, decide_eq_true_eq, Bool.not_eq_true']
    refine ⟨⟨⟨h1, h2⟩, h3, h4, h5⟩, by omega, ?_⟩
    rcases h7 with h7 | h7
    · exact Or.inl h7
    · exact Or.inr (by omega)
  rw [ckE, this]; rfl
theorem ck_no {b : Bk} (h : flB b.2.2.2.2.1 = true → b.2.2.2.2.1.2.2.1 = (b.2.2.2.1.length : Int) → (b.2.1.length : Int) ≤ b.1.2.1 → (ownsL b).Nodup → b.2.2.2.1.Nodup →
    ¬ (0 < (b.2.2.2.1.length : Int) ∧ 0 < (b.2.1.length : Int)) → (b.2.2.2.2.2.2.1 = false ∨ ¬ 0 < ((ownsL b).length : Int) + (b.2.2.2.1.length : Int)) → False) : ckE b = 2 := by
  have : ckB b = false := by
    rw [← Bool.not_eq_true]
    intro hk
    simp only [ckB, Bool.and_eq_true, Bool.or_eq_true, decide_eq_true_eq, Bool.not_eq_true'] at hk
    refine h hk.1.1.1 hk.1.1.2 hk.1.2.1 hk.1.2.2.1 hk.1.2.2.2 (by have := hk.2.1; omega) ?_
    rcases hk.2.2 with h7 | h7
    · exact Or.inl h7
    · exact Or.inr (by omega)
  rw [ckE, this]; rfl
theorem v10 : Vc g10 300 Try.f10 cCk := by
  constructor
  rw [v10_eq]
  simp only [Wr_iff, bcase_iff, true_and, and_true, decide_eq_true_eq, decide_eq_false_iff_not, Bool.and_eq_true, Bool.and_eq_false_iff, Bool.or_eq_true, Bool.or_eq_false_iff, Bool.not_eq_true', Bool.not_eq_false', Option.map_some, Option.getD_some, Option.isSome_some, Option.isSome_map, imp_self, nilL, noneO]
  rintro ⟨b, ⟨⟩⟩ hb
  dsimp only at hb ⊢
  have hs := hb
  rw [szB_iff] at hs
  have ho := owns_len b
  have ew : IntKind.wrap .i64 (((ownsL b).length : Int) + (b.2.2.2.1.length : Int)) = ((ownsL b).length : Int) + (b.2.2.2.1.length : Int) := wrap_id (by omega) (by omega)
  rw [ew]
  refine ⟨hb, fun _ => by omega, fun _ => by omega, fun h => ?_, fun h => ?_⟩
  · rw [ck_no]
    intro h1 h2 h3 h4 h5 h6 h7
    rcases h with (((((h | h) | h) | h) | h) | h) | h
    · exact h ((flCk_0 _).2 h1)
    · exact h h2
    · exact h h3
    · exact h h4
    · exact h h5
    · exact h6 h
    · rcases h7 with h7 | h7
      · rw [h7] at h; exact absurd h.1 (by decide)
      · exact h7 h.2
  · obtain ⟨⟨⟨⟨⟨⟨h1, h2⟩, h3⟩, h4⟩, h5⟩, h6⟩, h7⟩ := h
    rw [ck_yes ((flCk_0 _).1 h1) h2 h3 h4 h5 (by omega) (by rcases h7 with h7 | h7; exact Or.inl h7; exact Or.inr (by omega))]
theorem tw_t (l : List Int) : twB l = true ↔ ¬ l.Nodup := by unfold twB; simp
theorem tw_f (l : List Int) : twB l = false ↔ l.Nodup := by unfold twB; simp
theorem v7 : Vc g7 300 Try.f7 cCk := by
  constructor
  rw [v7_eq]
  simp only [Wr_iff, bcase_iff, true_and, and_true, decide_eq_true_eq, decide_eq_false_iff_not, Bool.and_eq_true, Bool.and_eq_false_iff, Bool.or_eq_true, Bool.or_eq_false_iff, Bool.not_eq_true', Bool.not_eq_false', Option.map_some, Option.getD_some, Option.isSome_some, Option.isSome_map, imp_self, nilL, noneO]
  rintro ⟨b, ⟨⟩⟩ hb
  dsimp only at hb ⊢
  have hs := hb
  rw [szB_iff] at hs
  have ho := owns_len b
  have ew : IntKind.wrap .i64 (((ownsL b).length : Int) + (b.2.2.2.1.length : Int)) = ((ownsL b).length : Int) + (b.2.2.2.1.length : Int) := wrap_id (by omega) (by omega)
  rw [ew]
  refine ⟨hb, fun _ => by omega, fun _ => by omega, fun h => ?_, fun h => ?_⟩
  · rw [ck_no]
    intro h1 h2 h3 h4 h5 h6 h7
    rcases h with (((((h | h) | h) | h) | h) | h) | h
    · exact h ((flCk_0 _).2 h1)
    · exact h h2
    · omega
    · exact (tw_t _).1 h h4
    · exact (tw_t _).1 h h5
    · exact h6 h
    · rcases h7 with h7 | h7
      · rw [h7] at h; exact absurd h.1 (by decide)
      · exact h7 h.2
  · obtain ⟨⟨⟨⟨⟨⟨h1, h2⟩, h3⟩, h4⟩, h5⟩, h6⟩, h7⟩ := h
    rw [ck_yes (b := b) ((flCk_0 _).1 h1) h2 (by omega) ((tw_f _).1 h4) ((tw_f _).1 h5) (by omega) (by rcases h7 with h7 | h7; exact Or.inl h7; exact Or.inr (by omega))]
theorem v6 : Vc g6 300 Try.f6 cGreat := by
  constructor
  rw [v6_eq]
  simp only [Wr_iff, bcase_iff, true_and, and_true, decide_eq_true_eq, decide_eq_false_iff_not, Bool.and_eq_true, Bool.and_eq_false_iff, Bool.or_eq_true, Bool.or_eq_false_iff, Bool.not_eq_true', Bool.not_eq_false', Option.map_some, Option.getD_some, Option.isSome_some, Option.isSome_map, imp_self, nilL, noneO]
  rintro ⟨b, ⟨⟩⟩ _
  dsimp only
  rw [greatB]
  congr 1
  rw [Bool.eq_iff_iff]
  simp only [Bool.or_eq_true, decide_eq_true_eq]
  omega
theorem EqI.zero {α : Type} (l : List α) : EqI l 0 := ⟨by omega, by omega⟩
theorem EqI.succ {α : Type} {l : List α} {i : Int} (h : EqI l i) (hl : l.length ≤ 9223372036854775807) (hi : i < l.length) :
    EqI l (IntKind.wrap .i64 (i + 1)) ∧ l.length - (IntKind.wrap .i64 (i + 1)).toNat < l.length - i.toNat := by
  have h0 := h.i0
  have e : IntKind.wrap .i64 (i + 1) = i + 1 := wrap_id (by omega) (by omega)
  rw [e]
  exact ⟨⟨by omega, by omega⟩, by omega⟩
theorem typ_sl {t : Ty} {a b : List t.El} (h : typedB (.cons (.sl t) (.cons (.sl t) .unit)) (a, b, ()) = true) : a.length ≤ 9223372036854775807 := by
  simp only [typedB, Bool.and_eq_true, decide_eq_true_eq] at h
  exact h.1.1
theorem v33 : Vc g33 300 Try.f33 (cSam I64).T := by
  constructor
  rw [v33_eq]
  simp only [Wr_iff, bcase_iff, true_and, and_true, decide_eq_true_eq, decide_eq_false_iff_not, Bool.and_eq_true, Bool.and_eq_false_iff, Bool.or_eq_true, Bool.or_eq_false_iff, Bool.not_eq_true', Bool.not_eq_false', Option.map_some, Option.getD_some, Option.isSome_some, Option.isSome_map, imp_self, nilL, noneO]
  rintro ⟨l, l', ⟨⟩⟩ ⟨ht, he⟩
  dsimp only at he
  subst he
  have hl := typ_sl ht
  dsimp only
  exact ⟨fun h => absurd rfl h, fun _ => ⟨EqI.zero _, fun i hu => ⟨fun hi => ⟨hu.i0, hi, hu.i0, hi, fun h => absurd rfl h, fun _ => hu.succ hl hi⟩, fun _ => trivial⟩⟩⟩
theorem v12 : Vc g12 300 Try.f12 (cSam I64).T := by
  constructor
  rw [v12_eq]
  simp only [Wr_iff, bcase_iff, true_and, and_true, decide_eq_true_eq, decide_eq_false_iff_not, Bool.and_eq_true, Bool.and_eq_false_iff, Bool.or_eq_true, Bool.or_eq_false_iff, Bool.not_eq_true', Bool.not_eq_false', Option.map_some, Option.getD_some, Option.isSome_some, Option.isSome_map, imp_self, nilL, noneO]
  rintro ⟨l, l', ⟨⟩⟩ ⟨ht, he⟩
  dsimp only at he
  subst he
  have hl := typ_sl ht
  dsimp only
  exact ⟨fun h => absurd rfl h, fun _ => ⟨EqI.zero _, fun i hu => ⟨fun hi => ⟨hu.i0, hi, hu.i0, hi, fun h => absurd rfl h, fun _ => hu.succ hl hi⟩, fun _ => trivial⟩⟩⟩
theorem kR : keyable RestT = true := by decide
theorem kS : keyable ScT = true := by decide
theorem v54 : Vc g54 300 Try.f54 (cSam RestT).T := by
  constructor
  rw [v54_eq]
  simp only [Wr_iff, bcase_iff, true_and, and_true, decide_eq_true_eq, decide_eq_false_iff_not, Bool.and_eq_true, Bool.and_eq_false_iff, Bool.or_eq_true, Bool.or_eq_false_iff, Bool.not_eq_true', Bool.not_eq_false', Option.map_some, Option.getD_some, Option.isSome_some, Option.isSome_map, imp_self, nilL, noneO]
  rintro ⟨l, l', ⟨⟩⟩ ⟨ht, he⟩
  dsimp only at he
  subst he
  have hl := typ_sl ht
  dsimp only
  exact ⟨fun h => absurd rfl h, fun _ => ⟨EqI.zero _, fun i hu => ⟨fun hi => ⟨hu.i0, hi, hu.i0, hi, fun h => absurd ((eqb_iff RestT kR _ _).2 rfl) (by rw [h]; decide), fun _ => hu.succ hl hi⟩, fun _ => trivial⟩⟩⟩
theorem v55 : Vc g55 300 Try.f55 (cSam ScT).T := by
  constructor
  rw [v55_eq]
  simp only [Wr_iff, bcase_iff, true_and, and_true, decide_eq_true_eq, decide_eq_false_iff_not, Bool.and_eq_true, Bool.and_eq_false_iff, Bool.or_eq_true, Bool.or_eq_false_iff, Bool.not_eq_true', Bool.not_eq_false', Option.map_some, Option.getD_some, Option.isSome_some, Option.isSome_map, imp_self, nilL, noneO]
  rintro ⟨l, l', ⟨⟩⟩ ⟨ht, he⟩
  dsimp only at he
  subst he
  have hl := typ_sl ht
  dsimp only
  exact ⟨fun h => absurd rfl h, fun _ => ⟨EqI.zero _, fun i hu => ⟨fun hi => ⟨hu.i0, hi, hu.i0, hi, fun h => absurd ((eqb_iff ScT kS _ _).2 rfl) (by rw [h]; decide), fun _ => hu.succ hl hi⟩, fun _ => trivial⟩⟩⟩
theorem v32 : Vc g32 300 Try.f32 (cSam RestT) := by
  constructor
  rw [v32_eq]
  simp only [Wr_iff, bcase_iff, true_and, and_true, decide_eq_true_eq, decide_eq_false_iff_not, Bool.and_eq_true, Bool.and_eq_false_iff, Bool.or_eq_true, Bool.or_eq_false_iff, Bool.not_eq_true', Bool.not_eq_false', Option.map_some, Option.getD_some, Option.isSome_some, Option.isSome_map, imp_self, nilL, noneO]
  intro x
  first | exact trivial | exact fun h => h
theorem v34 : Vc g34 300 Try.f34 (cSam ScT) := by
  constructor
  rw [v34_eq]
  simp only [Wr_iff, bcase_iff, true_and, and_true, decide_eq_true_eq, decide_eq_false_iff_not, Bool.and_eq_true, Bool.and_eq_false_iff, Bool.or_eq_true, Bool.or_eq_false_iff, Bool.not_eq_true', Bool.not_eq_false', Option.map_some, Option.getD_some, Option.isSome_some, Option.isSome_map, imp_self, nilL, noneO]
  intro x
  first | exact trivial | exact fun h => h
theorem v11 : Vc g11 300 Try.f11 cSameB := by
  constructor
  rw [v11_eq]
  simp only [Wr_iff, bcase_iff, true_and, and_true, decide_eq_true_eq, decide_eq_false_iff_not, Bool.and_eq_true, Bool.and_eq_false_iff, Bool.or_eq_true, Bool.or_eq_false_iff, Bool.not_eq_true', Bool.not_eq_false', Option.map_some, Option.getD_some, Option.isSome_some, Option.isSome_map, imp_self, nilL, noneO]
  rintro ⟨b, b', ⟨⟩⟩ he
  dsimp only at he
  subst he
  dsimp only
  exact ⟨fun _ => rfl, fun _ => rfl, fun _ => rfl, fun _ => rfl, by
    have e1 : ConfT.eqb b.1 b.1 = true := (eqb_iff ConfT (by decide) _ _).2 rfl
    have e2 : FlT.eqb b.2.2.2.2.1 b.2.2.2.2.1 = true := (eqb_iff FlT (by decide) _ _).2 rfl
    refine Prod.ext ?_ rfl
    rw [Bool.and_true, Bool.and_true, Bool.and_true, Bool.and_true, beq_self_eq_true, Bool.and_true]
    exact (Bool.and_eq_true _ _).mpr ⟨e1, e2⟩⟩
theorem idx_cases (x : Int) (l : List Int) : idxN x l = -1 ∨ (0 ≤ idxN x l ∧ idxN x l < l.length) := by
  unfold idxN
  cases h : l.any (fun y => decide (y = x)) with
  | false => exact Or.inl rfl
  | true =>
    right
    rw [cond_true]
    refine ⟨by omega, ?_⟩
    have := List.findIdx_lt_length.2 (List.any_eq_true.1 h)
    omega
theorem v9 : Vc g9 300 Try.f9 cQuit := by
  constructor
  rw [v9_eq]
  simp only [Wr_iff, bcase_iff, true_and, and_true, decide_eq_true_eq, decide_eq_false_iff_not, Bool.and_eq_true, Bool.and_eq_false_iff, Bool.or_eq_true, Bool.or_eq_false_iff, Bool.not_eq_true', Bool.not_eq_false', Option.map_some, Option.getD_some, Option.isSome_some, Option.isSome_map, imp_self, nilL, noneO]
  rintro ⟨b, c, ⟨⟩⟩ hb
  dsimp only at hb ⊢
  simp only [okW, szI, decide_eq_true_eq] at hb
  have hi := idx_cases c b.2.2.2.1
  refine ⟨fun h => ?_, fun h => ?_⟩
  · have e : IntKind.wrap .i64 (idxN c b.2.2.2.1 + 1) = idxN c b.2.2.2.1 + 1 := wrap_id (by omega) (by omega)
    rw [e]
    refine ⟨by omega, ⟨h, by omega, by omega, by omega⟩, by simp, fun _ => trivial, ?_⟩
    rw [quitT, quitB, decide_eq_true (show 0 ≤ idxN c b.2.2.2.1 from h)]
    rfl
  · refine ⟨fun _ => trivial, ?_⟩
    rw [quitT, quitB, decide_eq_false h]
    rfl
end Go.Proofs.Ytdkcgcgefgeooaa.Bk
/-
  DERIVED: THE SHELF's CONTRACTS AT THIS DUMP, IN PLAIN WORDS (tools/lay-plain.mjs out of 'TryShCut.lean', which tools/lay-shelf.mjs wrote): THE SAME DECLARATIONS UNDER THE SAME NAMES: 'import', 'namespace', 'open', 'def', 'theorem' AND NOTHING ELSE: no command of the shelf's: FOR A HAND-IN. Each laying: the table of numbers ('.._ren') and one theorem, a field a fact of the dump's own or the kernel's comparison; each contract: ONE APPLICATION.
-/
namespace Go.Proofs
open Go.Shelf
def Try.lays189_ren : Go.Shelf.Ren := ⟨fun | 189 => 73 | 125 => 84 | 257 => 83 | 128 => 100 | 129 => 101 | 294 => 91 | 295 => 92 | 296 => 93 | 297 => 94 | 298 => 95 | 299 => 96 | 216 => 97 | 300 => 98 | 301 => 99 | 328 => 105 | 329 => 106 | 330 => 107 | 331 => 108 | 332 => 109 | 215 => 110 | 343 => 111 | n => n, fun | 28 => 25 | 3 => 3 | 46 => 129 | 0 => 0 | 51 => 145 | 53 => 147 | 4 => 4 | 183 => 137 | 182 => 136 | 131 => 142 | 5 => 5 | 9 => 9 | 218 => 152 | 222 => 156 | 228 => 158 | 229 => 159 | n => n, fun | n => n⟩
theorem Try.lays189 : Go.Proofs.Lays.n189 Try.prog Try.lays189_ren := {
  mixed := by kernel_rfl
  f125 := Try.func84.trans (congrArg some (by kernel_rfl))
  f128 := Try.func100.trans (congrArg some (by kernel_rfl))
  f129 := Try.func101.trans (congrArg some (by kernel_rfl))
  f189 := Try.func73.trans (congrArg some (by kernel_rfl))
  f215 := Try.func110.trans (congrArg some (by kernel_rfl))
  f216 := Try.func97.trans (congrArg some (by kernel_rfl))
  f257 := Try.func83.trans (congrArg some (by kernel_rfl))
  f294 := Try.func91.trans (congrArg some (by kernel_rfl))
  f295 := Try.func92.trans (congrArg some (by kernel_rfl))
  f296 := Try.func93.trans (congrArg some (by kernel_rfl))
  f297 := Try.func94.trans (congrArg some (by kernel_rfl))
  f298 := Try.func95.trans (congrArg some (by kernel_rfl))
  f299 := Try.func96.trans (congrArg some (by kernel_rfl))
  f300 := Try.func98.trans (congrArg some (by kernel_rfl))
  f301 := Try.func99.trans (congrArg some (by kernel_rfl))
  f328 := Try.func105.trans (congrArg some (by kernel_rfl))
  f329 := Try.func106.trans (congrArg some (by kernel_rfl))
  f330 := Try.func107.trans (congrArg some (by kernel_rfl))
  f331 := Try.func108.trans (congrArg some (by kernel_rfl))
  f332 := Try.func109.trans (congrArg some (by kernel_rfl))
  f343 := Try.func111.trans (congrArg some (by kernel_rfl))
  t0 := Try.underlying0
  a0 := Try.isAgg0
  z0 := Try.sizeOf0
  v0 := Try.zeroValue0
  t3 := Try.underlying3
  a3 := Try.isAgg3
  z3 := Try.sizeOf3
  v3 := Try.zeroValue3
  t4 := Try.underlying4
  a4 := Try.isAgg4
  z4 := Try.sizeOf4
  v4 := Try.zeroValue4
  t5 := Try.underlying5
  a5 := Try.isAgg5
  z5 := Try.sizeOf5
  v5 := Try.zeroValue5
  t9 := Try.underlying9
  a9 := Try.isAgg9
  z9 := Try.sizeOf9
  v9 := Try.zeroValue9
  t28 := Try.underlying25
  a28 := Try.isAgg25
  z28 := Try.sizeOf25
  v28 := Try.zeroValue25
  t46 := Try.underlying129
  a46 := Try.isAgg129
  z46 := Try.sizeOf129
  v46 := Try.zeroValue129
  t51 := Try.underlying145
  a51 := Try.isAgg145
  z51 := Try.sizeOf145
  v51 := Try.zeroValue145
  t53 := Try.underlying147
  a53 := Try.isAgg147
  z53 := Try.sizeOf147
  v53 := Try.zeroValue147
  t131 := Try.underlying142
  a131 := Try.isAgg142
  z131 := Try.sizeOf142
  v131 := Try.zeroValue142
  t182 := Try.underlying136
  a182 := Try.isAgg136
  z182 := Try.sizeOf136
  v182 := Try.zeroValue136
  t183 := Try.underlying137
  a183 := Try.isAgg137
  z183 := Try.sizeOf137
  v183 := Try.zeroValue137
  t218 := Try.underlying152
  a218 := Try.isAgg152
  z218 := Try.sizeOf152
  v218 := Try.zeroValue152
  t222 := Try.underlying156
  a222 := Try.isAgg156
  z222 := Try.sizeOf156
  v222 := Try.zeroValue156
  t228 := Try.underlying158
  a228 := Try.isAgg158
  z228 := Try.sizeOf158
  v228 := Try.zeroValue158
  t229 := Try.underlying159
  a229 := Try.isAgg159
  z229 := Try.sizeOf159
  v229 := Try.zeroValue159 }
open Go.Sort Go.RowKit in
theorem Try.slices_Sort_int (blk off cap : Nat) (zs : List Int) (w : World) (hH : Holds (Value.int .i64) w blk off zs.toArray) (hblk : blk < w.heap.size) (hsz : zs.length < 4611686018427387904) :
    Calls Try.prog 73 #[.slice (some ⟨blk, off, none⟩) zs.length cap] w fun e w' =>
      e = .returned (.tuple #[]) ∧ ∃ n os, w' = grow (putRow (Value.int .i64) (Sort.ahead w n) blk off (zs.mergeSort fun x y => decide (x ≤ y)).toArray) os := Any.slices_Sort_int Try.lays189 blk off cap zs w hH hblk hsz
def Try.laysNm220_ren : Go.Shelf.Ren := ⟨fun | 20 => 53 | n => n, fun | 22 => 25 | 3 => 3 | 4 => 4 | 0 => 0 | n => n, fun | n => n⟩
theorem Try.laysNm220 : Go.Proofs.Lays2.n20 Try.prog Try.laysNm220_ren := {
  mixed := by kernel_rfl
  f20 := Try.func53.trans (congrArg some (by kernel_rfl))
  t0 := Try.underlying0
  a0 := Try.isAgg0
  z0 := Try.sizeOf0
  v0 := Try.zeroValue0
  t3 := Try.underlying3
  a3 := Try.isAgg3
  z3 := Try.sizeOf3
  v3 := Try.zeroValue3
  t4 := Try.underlying4
  a4 := Try.isAgg4
  z4 := Try.sizeOf4
  v4 := Try.zeroValue4
  t22 := Try.underlying25
  a22 := Try.isAgg25
  z22 := Try.sizeOf25
  v22 := Try.zeroValue25
  i3 := by kernel_rfl }
open Go.RowKit Go.Lib Go.Sort in
/-- slices.Compact at []int, over an array: the library's two loops are walked. (LAID: no walk: one application.) -/
theorem Try.slices_Compact_int_arr (blk off cap : Nat) (d : Array Int) (w : World) (hH : Holds encI w blk off d) (hsz : d.size ≤ 9223372036854775807) (hcap : d.size ≤ cap) :
    Calls Try.prog 53 #[.slice (some ⟨blk, off, none⟩) d.size cap] w fun e w' => e = .returned (.slice (some ⟨blk, off, none⟩) (compactUpTo d d.size).length cap) ∧ ∃ q, w' = putRow encI (Sort.ahead w q) blk off (compactUpTo d d.size ++ List.replicate (d.size - (compactUpTo d d.size).length) 0).toArray := Any.slices_Compact_int_arr Try.laysNm220 blk off cap d w hH hsz hcap
open Go.RowKit Go.Lib Go.Sort in
theorem Try.slices_Compact_int (blk off cap : Nat) (zs : List Int) (w : World) (hH : Holds (Value.int .i64) w blk off zs.toArray) (hsz : zs.length ≤ 9223372036854775807) (hcap : zs.length ≤ cap) :
    Calls Try.prog 53 #[.slice (some ⟨blk, off, none⟩) zs.length cap] w fun e w' => e = .returned (.slice (some ⟨blk, off, none⟩) (Lib.compact zs).length cap) ∧ ∃ q, w' = putRow (Value.int .i64) (Sort.ahead w q) blk off (Lib.compact zs ++ List.replicate (zs.length - (Lib.compact zs).length) 0).toArray := Any.slices_Compact_int Try.laysNm220 blk off cap zs w hH hsz hcap
open Go.RowKit Go.Lib Go.Sort in
/-- The same at a slice of length 0, a nil one too: it comes back as it is. (LAID: no walk: one application.) -/
theorem Try.slices_Compact_int_empty (a : Option Addr) (cap : Nat) (w : World) :
    Calls Try.prog 53 #[.slice a 0 cap] w fun e w' => e = .returned (.slice a 0 cap) ∧ w' = w := Any.slices_Compact_int_empty Try.laysNm220 a cap w
def Try.laysNm223_ren : Go.Shelf.Ren := ⟨fun | 23 => 47 | n => n, fun | 22 => 25 | 3 => 3 | 4 => 4 | 0 => 0 | n => n, fun | n => n⟩
theorem Try.laysNm223 : Go.Proofs.Lays2.n23 Try.prog Try.laysNm223_ren := {
  mixed := by kernel_rfl
  f23 := Try.func47.trans (congrArg some (by kernel_rfl))
  t0 := Try.underlying0
  a0 := Try.isAgg0
  z0 := Try.sizeOf0
  v0 := Try.zeroValue0
  t3 := Try.underlying3
  a3 := Try.isAgg3
  z3 := Try.sizeOf3
  v3 := Try.zeroValue3
  t4 := Try.underlying4
  a4 := Try.isAgg4
  z4 := Try.sizeOf4
  v4 := Try.zeroValue4
  t22 := Try.underlying25
  a22 := Try.isAgg25
  z22 := Try.sizeOf25
  v22 := Try.zeroValue25
  i3 := by kernel_rfl }
open Go.RowKit Go.Lib Go.Sort in
/-- slices.Delete at []int, over an array. (LAID: no walk: one application.) -/
theorem Try.slices_Delete_int_arr (blk off cap i j : Nat) (d : Array Int) (w : World) (hH : Holds encI w blk off d) (hcap : d.size ≤ cap) (hm : cap ≤ 9223372036854775807) (hij : i ≤ j) (hj : j ≤ d.size) :
    Calls Try.prog 47 #[.slice (some ⟨blk, off, none⟩) d.size cap, .int .i64 i, .int .i64 j] w fun e w' => e = .returned (.slice (some ⟨blk, off, none⟩) (d.size - (j - i)) cap) ∧ ∃ q, w' = putRow encI (Sort.ahead w q) blk off (d.toList.take i ++ d.toList.drop j ++ List.replicate (j - i) 0).toArray := Any.slices_Delete_int_arr Try.laysNm223 blk off cap i j d w hH hcap hm hij hj
open Go.RowKit Go.Lib Go.Sort in
theorem Try.slices_Delete_int (blk off cap i j : Nat) (zs : List Int) (w : World) (hH : Holds (Value.int .i64) w blk off zs.toArray) (hcap : zs.length ≤ cap) (hm : cap ≤ 9223372036854775807) (hij : i ≤ j) (hj : j ≤ zs.length) :
    Calls Try.prog 47 #[.slice (some ⟨blk, off, none⟩) zs.length cap, .int .i64 i, .int .i64 j] w fun e w' => e = .returned (.slice (some ⟨blk, off, none⟩) (zs.length - (j - i)) cap) ∧ ∃ q, w' = putRow (Value.int .i64) (Sort.ahead w q) blk off (zs.take i ++ zs.drop j ++ List.replicate (j - i) 0).toArray := Any.slices_Delete_int Try.laysNm223 blk off cap i j zs w hH hcap hm hij hj
open Go.RowKit Go.Sort in
/-- .. and plain. (LAID: no walk: one application.) -/
theorem Try.slices_Sort_int_none (p : Option Addr) (cap : Nat) (w : World) :
    Calls Try.prog 73 #[.slice p 0 cap] w fun e w' => e = .returned (.tuple #[]) ∧ w' = w := Any.slices_Sort_int_none Try.lays189 p cap w
open Go.RowKit Go.Lib in
/-- slices.Delete at []int of no element ('Delete(s, 0, 0)'): s comes back; the world is as it was. (LAID: no walk: one application.) -/
theorem Try.slices_Delete_int_empty (a : Option Addr) (c : Nat) (w : World) :
    Calls Try.prog 47 #[.slice a 0 c, .int .i64 0, .int .i64 0] w fun e w' => e = .returned (.slice a 0 c) ∧ w' = w := Any.slices_Delete_int_empty Try.laysNm223 a c w
end Go.Proofs
set_option linter.all false
set_option maxRecDepth 100000
namespace Go.Proofs.Ytdkcgcgefgeooaa.Bk
open Go Go.Eng Go.Proofs Go.Sort Go.RowKit
/-- rows of numbers -/
theorem rdl_int {P : Program} {S : Nat → Prop} {w : World} : ∀ {xs : List Int} {cs : List Value}, RdL P I64 S w xs cs → cs = xs.map (Value.int .i64) ∧ ∀ x ∈ xs, IntKind.wrap .i64 x = x
  | [], cs, h => ⟨h, fun x hx => by cases hx⟩
  | x :: r, cs, h => by
    obtain ⟨c1, c2, rfl, h1, h2⟩ := h
    obtain ⟨e, hr⟩ := rdl_int h2
    refine ⟨?_, fun y hy => ?_⟩
    · rw [List.map_cons, e, h1.1]; rfl
    · rcases List.mem_cons.1 hy with rfl | hy
      · exact h1.2
      · exact hr y hy
theorem rdl_int_of {P : Program} {S : Nat → Prop} {w : World} : ∀ {xs : List Int}, (∀ x ∈ xs, IntKind.wrap .i64 x = x) → RdL P I64 S w xs (xs.map (Value.int .i64))
  | [], _ => rfl
  | x :: r, h => ⟨[.int .i64 x], _, rfl, ⟨rfl, h x List.mem_cons_self⟩, rdl_int_of fun y hy => h y (List.mem_cons_of_mem _ hy)⟩
/-- a row of numbers at the head of a block, as a value of the engine's -/
theorem rdc_row {P : Program} {S : Nat → Prop} {w : World} {g cap : Nat} {cur : Array Value} {e : TypeId} {xs zs : List Int} {fr : Nat × Nat} (hS : S g) (hb : w.heap[g]? = some (.cells cur e fr)) (hcap : xs.length ≤ cap) (hmax : cap ≤ maxLen) (hw : ∀ x ∈ xs, IntKind.wrap .i64 x = x)
    (ht : cur.toList.take zs.length = zs.map (Value.int .i64)) (hp : ∃ r, zs = xs ++ r) : RdC P (.sl I64) S w xs [.slice (some ⟨g, 0, none⟩) xs.length cap] := by
  refine ⟨_, cap, rfl, hcap, hmax, fun _ => ⟨g, 0, rfl, hS, fun i x hx => ⟨[.int .i64 x], ⟨rfl, hw x (List.mem_of_getElem? hx)⟩, ?_⟩⟩⟩
  obtain ⟨r, rfl⟩ := hp
  have hi := (List.getElem?_eq_some_iff.1 hx).1
  intro j v hj
  have hj0 : j = 0 := by
    have := (List.getElem?_eq_some_iff.1 hj).1
    simp at this; exact this
  subst hj0
  have hv : v = .int .i64 x := by simpa using hj.symm
  subst hv
  have h1 : (cur.toList.take (xs ++ r).length)[i]? = some (.int .i64 x) := by
    rw [ht, List.getElem?_map, List.getElem?_append_left hi, hx]; rfl
  have h2 : cur[i]? = some (.int .i64 x) := by
    rw [List.getElem?_take_of_lt (by rw [List.length_append]; omega), Array.getElem?_toList] at h1
    exact h1
  have hz : 0 + i * Ty.size I64 + 0 = i := by show 0 + i * 1 + 0 = i; omega
  rw [hz]
  simp only [World.cell?, hb, Option.isSome_none, Bool.false_eq_true, if_false, h2]
theorem del_at (w : World) (base : Nat) (S : Nat → Prop) (v : Value) (xs : List Int) (cs : List Value) (a b : Nat) (hown : w.ownsRow base 3 1 v xs.length cs) (hcs : cs = xs.map (Value.int .i64)) (hw : ∀ x ∈ xs, IntKind.wrap .i64 x = x) (p1 : a ≤ b) (p2 : b ≤ xs.length) (p3 : xs.length ≤ 1000000000) :
    Calls Try.prog 47 #[v, .int .i64 a, .int .i64 b] w fun e w' => w.grownBy w' v.ownBlock ∧ ∃ r, e = .returned r ∧ RdC Try.prog (.sl I64) (fun b => S b ∨ (w.heap.size ≤ b ∧ b < w'.heap.size) ∨ v.ownBlock = some b) w' (xs.take a ++ xs.drop b) [r] := by
  have hel : (xs.take a ++ xs.drop b).length = xs.length - (b - a) := by rw [List.length_append, List.length_take, List.length_drop]; omega
  have hwF : ∀ x ∈ xs.take a ++ xs.drop b, IntKind.wrap .i64 x = x := fun x hx => by
    rcases List.mem_append.1 hx with hx | hx
    · exact hw x (List.mem_of_mem_take hx)
    · exact hw x (List.mem_of_mem_drop hx)
  rcases hown.2 with ⟨rfl, hn⟩ | ⟨g, cap, cur, rfl, hg, hh, hcap, hmax, hsz, htk⟩
  · obtain rfl : xs = [] := List.length_eq_zero_iff.1 hn
    have hb0 : b = 0 := by simpa using p2
    subst hb0
    have ha0 : a = 0 := by omega
    subst ha0
    refine Calls.mono (Try.slices_Delete_int_empty none 0 w) ?_
    rintro e w' ⟨rfl, rfl⟩
    exact ⟨⟨rfl, rfl, rfl, Nat.le_refl _, fun _ _ _ => rfl⟩, _, rfl, ⟨none, 0, rfl, by simp, by simp [maxLen], fun h => absurd rfl h⟩⟩
  · have hlt : g < w.heap.size := (Array.getElem?_eq_some_iff.1 hh).1
    have htk' : cur.toList.take xs.length = xs.map (Value.int .i64) := by
      rw [← hcs, ← htk, Nat.mul_one]
    have hH := holds_of_blockI hh htk'
    have hcall := Try.slices_Delete_int g 0 cap a b xs w hH hcap hmax p1 p2
    refine Calls.mono hcall ?_
    rintro e w' ⟨rfl, n, rfl⟩
    have hg0 := grownBy_sortedI (w := w) (g := g) (n := n) (os := #[]) (xs.take a ++ xs.drop b ++ List.replicate (b - a) 0).toArray
    rw [grow_empty] at hg0
    have hh2 := heap_sortedI (w := w) (n := n) (os := #[]) (xs.take a ++ xs.drop b ++ List.replicate (b - a) 0).toArray hh
    rw [grow_empty] at hh2
    have hzl : (xs.take a ++ xs.drop b ++ List.replicate (b - a) (0 : Int)).length = xs.length := by rw [List.length_append, hel, List.length_replicate]; omega
    refine ⟨hg0, _, rfl, ?_⟩
    have hcsz : cur.size = cap := by rw [hsz]; omega
    have htp := take_putCellsI cur (xs.take a ++ xs.drop b ++ List.replicate (b - a) (0 : Int)) (by rw [hzl]; omega)
    generalize putRow (Value.int .i64) (Sort.ahead w n) g 0 (xs.take a ++ xs.drop b ++ List.replicate (b - a) 0).toArray = W' at hg0 hh2 ⊢
    generalize putCells (Value.int .i64) 0 (xs.take a ++ xs.drop b ++ List.replicate (b - a) 0).toArray cur = cur' at hh2 htp
    rw [← hel]
    exact rdc_row (.inr (.inr rfl)) hh2 (by rw [hel]; omega) hmax hwF htp ⟨_, rfl⟩
theorem del_pre {i j : Int} {n : Nat} (h : 0 ≤ i ∧ i ≤ j ∧ j ≤ n ∧ n ≤ 1000000000) : ∃ a b : Nat, i = a ∧ j = b ∧ a ≤ b ∧ b ≤ n ∧ n ≤ 1000000000 := ⟨i.toNat, j.toNat, by omega, by omega, by omega, by omega, h.2.2.2⟩
theorem mval47 : MValid Try.prog GW 47 mDel := by
  refine ⟨⟨Try.f47, Try.func47, by kernel_rfl, rfl⟩, fun w _ base S v xs cs y ys hb hz h1 hown hrl hns hys hpre => ?_⟩
  obtain ⟨i, j, ⟨⟩⟩ := y
  obtain ⟨hcs, hw⟩ := rdl_int hrl
  obtain ⟨c1, c2, rfl, ⟨rfl, _⟩, c3, c4, rfl, ⟨rfl, _⟩, rfl⟩ := hys
  obtain ⟨a, b, rfl, rfl, p1, p2, p3⟩ := del_pre hpre
  refine Calls.mono (del_at w base S v xs cs a b hown hcs hw p1 p2 p3) ?_
  rintro e w' ⟨hg, r, rfl, hr⟩
  exact ⟨hg, .inl ⟨rfl, r, rfl, hr⟩⟩
end Go.Proofs.Ytdkcgcgefgeooaa.Bk
set_option linter.all false
namespace Go.Proofs.Ytdkcgcgefgeooaa.Bk
open Go.RowKit Go.Shelf Go.Eng
attribute [local go_sem] Oper.semAt_some
abbrev W0 := Fence.wide
theorem wide_fn (f : FuncId) : W0.fn f := by trivial
theorem wide_ro : W0.round = none := rfl
def upto {α : Type} (f : Nat → α) (k : Nat) : List α := (List.range k).map f
theorem upto_succ {α : Type} (f : Nat → α) (k : Nat) : upto f (k + 1) = upto f k ++ [f k] := by simp [upto, List.range_succ]
theorem upto_length {α : Type} (f : Nat → α) (k : Nat) : (upto f k).length = k := by simp [upto]
theorem upto_all (zs : List Int) : upto (fun j => zs[j]?.getD 0) zs.length = zs := by
  apply List.ext_getElem
  · simp [upto]
  · intro i h1 h2
    simp [upto, h2]
set_option maxRecDepth 100000 in
set_option maxHeartbeats 2000000 in
theorem values1_in (n : Nat) (hn : 1 ≤ n) (l Bs n₀ len cap : Nat) (base : Option Addr) (zs : List Int) (hreach : len * 8 ≤ 140737488351232) (J Jx : List Int → World → Prop)
    (hY : ∀ pre x W, J pre W → pre.length < len → YieldAt W0 (n - 1) Try.prog l #[.int .i64 x] W fun e W' =>
      (e = .returned (.bool true) ∧ J (pre ++ [x]) W' ∧ Below n₀ W W') ∨ (e = .returned (.bool false) ∧ Jx (pre ++ [x]) W'))
    (W : World) (hBs : W.cell? ⟨Bs, 0, none⟩ = some (.slice base len cap)) (hc : ∀ k, k < len → ∃ b off, base = some ⟨b, off, none⟩ ∧ b < n₀ ∧ W.cell? ⟨b, off + k, none⟩ = some (.int .i64 (zs[k]?.getD 0))) (h0 : J [] W) :
    CallsIn W0 n Try.prog 74 #[.func (.yield l) #[] #[], .pointer (some ⟨Bs, 0, none⟩)] W fun e W' => (∃ v, e = .returned v) ∧
      ((∃ ys, ys = upto (fun j => zs[j]?.getD 0) len ∧ J ys W') ∨ (∃ pre, True ∧ Jx pre W')) := by
  refine callsIn_of_wp Try.func74 rfl (wide_fn _) ?_ wide_ro
  simp only [Try.ntmps74, List.size_toArray, List.length_cons, List.length_nil, Nat.reduceAdd, Nat.reduceSub, Array.replicate_succ, Array.replicate_zero, List.push_toArray, List.append_toArray, List.nil_append, List.cons_append]
  gi_wp2
  gi_loopw [7] (fun i wr => ∃ k : Nat, k ≤ len ∧ i = .int .i64 k ∧ J (upto (fun j => zs[j]?.getD 0) k) wr ∧ Below n₀ W wr)
    (fun i _ => len - (intOf i).toNat)
  case atStart => exact ⟨0, Nat.zero_le _, rfl, h0, Below.refl _ _⟩
  case round =>
    obtain ⟨k, hk, rfl, hJs, hnx⟩ := hrel
    by_cases hlt : k < len
    · obtain ⟨b, off, rfl, hb, hcx0⟩ := hc k hlt
      have hcx' : wr.cell? ⟨b, off + k, none⟩ = some (.int .i64 (zs[k]?.getD 0)) := (hnx.cell (p := ⟨b, off + k, none⟩) hb).trans hcx0
      obtain ⟨fn, tmps, assign, body, hy, hR⟩ := hY _ (zs[k]?.getD 0) wr hJs (by rw [upto_length]; exact hlt)
      gi_wp2
      refine hR.mono ?_
      rintro e W3 (⟨rfl, hJ3, hk3⟩ | ⟨rfl, hJx3⟩)
      · gi_wp2
        go_roundw
        case rel => exact ⟨k + 1, by omega, by simp, by rw [upto_succ]; exact hJ3, hnx.trans hk3⟩
        case measure => simp [intOf]; omega
      · gi_wp2
        refine bodyPost_ret (results_none rfl _ _ _) rfl ?_
        exact ⟨⟨_, rfl⟩, .inr ⟨_, trivial, hJx3⟩⟩
    · obtain rfl : k = len := by omega
      gi_wp2
      go_end0
      exact ⟨⟨_, rfl⟩, .inl ⟨_, rfl, hJs⟩⟩
set_option maxHeartbeats 1000000 in
theorem values_in (n : Nat) (a : Option Addr) (len cap : Nat) (w : World) :
    CallsIn W0 n Try.prog 52 #[.slice a len cap] w fun e w' => e = .returned (.func (.func 74) #[] #[.pointer (some ⟨w.heap.size, 0, none⟩)]) ∧ w' = w.alloc (.cells #[.slice a len cap] 25) := by
  refine callsIn_of_wp Try.func52 rfl (wide_fn _) ?_ wide_ro
  simp only [Try.ntmps52, List.size_toArray, List.length_cons, List.length_nil, Nat.reduceAdd, Nat.reduceSub, Array.replicate_succ, Array.replicate_zero, List.push_toArray, List.append_toArray, List.nil_append, List.cons_append]
  gi_wp2
  go_ret
  exact ⟨rfl, rfl⟩
/-- what a slice of numbers reads as: below n₀ -/
def Ints (n₀ : Nat) (W : World) (base : Option Addr) (zs : List Int) : Prop := ∀ k, k < zs.length → ∃ b off, base = some ⟨b, off, none⟩ ∧ b < n₀ ∧ W.cell? ⟨b, off + k, none⟩ = some (.int .i64 (zs[k]?.getD 0))
theorem Ints.below {n₀ : Nat} {A B : World} (h : Below n₀ A B) {base : Option Addr} {zs : List Int} (hI : Ints n₀ A base zs) : Ints n₀ B base zs := fun k hk => by
  obtain ⟨b, off, e, hb, hc⟩ := hI k hk
  exact ⟨b, off, e, hb, (h.cell (p := ⟨b, off + k, none⟩) hb).trans hc⟩
theorem Ints.mono {n₀ n₁ : Nat} (hn : n₀ ≤ n₁) {A : World} {base : Option Addr} {zs : List Int} (hI : Ints n₀ A base zs) : Ints n₁ A base zs := fun k hk => by
  obtain ⟨b, off, e, hb, hc⟩ := hI k hk
  exact ⟨b, off, e, Nat.lt_of_lt_of_le hb hn, hc⟩
theorem values_stops (n : Nat) (hn : 1 ≤ n) (Bs n₀ : Nat) (base : Option Addr) (cap : Nat) (zs : List Int) (hreach : zs.length * 8 ≤ 140737488351232) (w : World) (hBs : Bs < w.heap.size) (hn₀ : n₀ ≤ w.heap.size)
    (hc : w.cell? ⟨Bs, 0, none⟩ = some (.slice base zs.length cap)) (hI : Ints n₀ w base zs) :
    SeqStopsK W0 n Try.prog 74 #[.pointer (some ⟨Bs, 0, none⟩)] (fun x : Int => #[Value.int .i64 x]) (Below n₀) (fun ys => ys = zs) (fun _ => True) zs.length w := fun l J Jx W hW _ _ hY h0 => by
  have hc' := (hW.cell (p := ⟨Bs, 0, none⟩) hBs).trans hc
  refine (values1_in n hn l Bs n₀ zs.length cap base zs hreach J Jx hY W hc' (hI.below (hW.mono hn₀)) h0).mono ?_
  rintro e W' ⟨he, ⟨ys, rfl, hj⟩ | ⟨pre, _, hj⟩⟩
  · exact ⟨he, .inl ⟨_, upto_all zs, hj⟩⟩
  · exact ⟨he, .inr ⟨_, trivial, hj⟩⟩
theorem info3 : (Try.prog.info? 3).map (fun i => (i.zero, i.size, i.bytes)) = some (some (.int .i64 0), 1, 8) := by kernel_rfl
theorem und25 : Try.prog.underlying 25 = some (.slice 3) := by kernel_rfl
set_option maxRecDepth 100000 in
set_option maxHeartbeats 2000000 in
theorem append_in (Bs : Nat) (base : Option Addr) (cap : Nat) (zs : List Int) (hreach : zs.length ≤ 1000000000) (w : World) (hBs : Bs < w.heap.size) (hc0 : w.cell? ⟨Bs, 0, none⟩ = some (.slice base zs.length cap)) (hI : Ints w.heap.size w base zs) :
    CallsIn W0 3 Try.prog 82 #[.slice none 0 0, .func (.func 74) #[] #[.pointer (some ⟨Bs, 0, none⟩)]] w fun e W' => ∃ v, e = .returned v ∧ W'.ownsRow w.heap.size 3 1 v zs.length (zs.map (Value.int .i64)) ∧ Below w.heap.size w W' := by
  have h1 : 1 ≤ 3 := by omega
  obtain ⟨i0, hi, hz0, hz1, hz2⟩ := info_parts info3
  have hmx : maxLen = 2 ^ 63 - 1 := rfl
  refine callsIn_of_wp_marks Try.func82 rfl (wide_fn _) ?_ wide_ro
  simp only [Try.ntmps82, List.size_toArray, List.length_cons, List.length_nil, Nat.reduceAdd, Nat.reduceSub, Array.replicate_succ, Array.replicate_zero, List.push_toArray, List.append_toArray, List.nil_append, List.cons_append]
  gi_wp2
  have bO := Boxed.new w 25 (.slice none 0 0)
  have hB0 : Below w.heap.size w (w.alloc (.cells #[.slice none 0 0] 25)) := (Below.refl _ w).alloc (Nat.le_refl _) _
  refine wpIn_rangeFunc_ownG (F := W0) (n := 3) (P := Try.prog) wide_ro h1 (gf := 74) (lb := #[.pointer (some ⟨Bs, 0, none⟩)]) rfl (wide_fn _) (enters_of Try.func74 (by kernel_rfl) rfl)
    (values_stops 2 (by omega) Bs w.heap.size base cap zs (by omega) _ (by simp; omega) (by simp) ((hB0.cell (p := ⟨Bs, 0, none⟩) hBs).trans hc0) (hI.below hB0))
    belowK_t (belowK_b (by simp)) (Below.refl _ _) (fun _ => rfl)
    (fun pre W => (∃ v, Boxed W w.heap.size 25 v ∧ W.ownsRow w.heap.size 3 1 v pre.length (pre.map (Value.int .i64)) ∧ True) ∧ Below w.heap.size w W)
    (fun _ _ _ => False)
    (OwnFrom.and (Own.from (holdsRow_own w.heap.size w.heap.size 25 3 1 (fun pre : List Int => pre.length) (fun pre => pre.map (Value.int .i64)) (fun _ _ => True)) _) (ownFrom_below (Nat.le_refl _) (by simp)))
    (fun _ _ _ _ _ hs _ _ => hs)
    ⟨⟨_, bO, World.ownsRow_nil _ _ _ _, trivial⟩, hB0⟩
    (fun x => { tmps := #[.slice none 0 0, .func (.func 74) #[] #[.pointer (some ⟨Bs, 0, none⟩)], .pointer (some ⟨w.heap.size, 0, none⟩), undef, .slice none 0 0, .int .i64 x, .func (.func 74) #[] #[.pointer (some ⟨Bs, 0, none⟩)], .int .i64 x, undef, undef, undef, undef, undef], defers := [] }) ?assign ?body ?done ?stop
  case assign =>
    intro y x W K hK
    gi_wp2
    exact hK
  case body =>
    rintro y pre x W ⟨⟨v, hv, hrow, _⟩, hB⟩ hlt
    have hc := hv.cell
    gi_wp2_with (gi_at_builtin; refine wpListIn_append_own _ rfl _ _ 25 rfl w.heap.size 3 i0 (.int .i64 0) 1 8 und25 hi hz0 hz1 hz2 rfl (by decide) _ _ _ rfl (hrow.alloc _) ⟨W.heap.size, 0, none⟩ 1 1 [.int .i64 x] rfl rfl (cell_one_new _ _ _) (by simp [Value.oneCell']) (by omega) (by omega) (by have := hB.size; simp; omega) ?_; intro v' w1 hown' hgrow _; obtain ⟨g', cap', rfl⟩ := ownsRow_succ hown'; obtain ⟨hv1, hv2, hr2, hk2, hb2⟩ := hv.appended (by decide) hrow hB.size (Nat.le_refl _) hown' hgrow; have hc1 := hv1.cell; have hf1 := hv1.frozen)
    refine ⟨hk2.from _, hb2, ⟨_, hv2, ?_, trivial⟩, hB.trans hb2⟩
    simpa using hr2
  case done =>
    rintro D ys W hD rfl ⟨⟨v, hv, hrow, _⟩, hB⟩ hK
    have hc := hv.cell
    have hone : (∃ a m c, v = .slice a m c) := by
      rcases hrow.2 with ⟨rfl, _⟩ | ⟨g, cap, cur, rfl, _⟩ <;> exact ⟨_, _, _, rfl⟩
    obtain ⟨a', m', c', rfl⟩ := hone
    gi_wp2
    refine ⟨by simp, .inl ⟨_, _, rfl, run_takeDeferred hK, ?_⟩⟩
    exact ⟨_, results_tmp rfl _ _ _, _, rfl, ownsRow_putObj hrow _ hK rfl, hB.trans (belowK_b (w := w) (Nat.le_refl _) W D _ _ (by simp at hD; omega) hK rfl rfl)⟩
  case stop =>
    rintro D c pre W _ _ h _
    exact h.elim
set_option maxHeartbeats 2000000 in
theorem collect_in (Bs : Nat) (base : Option Addr) (cap : Nat) (zs : List Int) (hreach : zs.length ≤ 1000000000) (w : World) (hBs : Bs < w.heap.size) (hc0 : w.cell? ⟨Bs, 0, none⟩ = some (.slice base zs.length cap)) (hI : Ints w.heap.size w base zs) :
    CallsIn W0 4 Try.prog 72 #[.func (.func 74) #[] #[.pointer (some ⟨Bs, 0, none⟩)]] w fun e W' => ∃ v, e = .returned v ∧ W'.ownsRow w.heap.size 3 1 v zs.length (zs.map (Value.int .i64)) ∧ Below w.heap.size w W' := by
  refine callsIn_of_wp Try.func72 rfl (wide_fn _) ?_ wide_ro
  simp only [Try.ntmps72, List.size_toArray, List.length_cons, List.length_nil, Nat.reduceAdd, Nat.reduceSub, Array.replicate_succ, Array.replicate_zero, List.push_toArray, List.append_toArray, List.nil_append, List.cons_append]
  gi_wp2_with (refine ⟨wide_fn _, ?_⟩; gi_at_call 82; refine (append_in Bs base cap zs hreach _ hBs hc0 hI).mono ?_; rintro e w' ⟨v, rfl, hr, hb⟩)
  go_ret
  exact ⟨v, rfl, hr, hb⟩
open Go.Sort in
theorem sort_at (n : Nat) (w : World) (base : Nat) (v : Value) (zs : List Int) (hown : w.ownsRow base 3 1 v zs.length (zs.map (Value.int .i64))) (hl : zs.length ≤ 1000000000) :
    CallsIn W0 n Try.prog 73 #[v] w fun e w' => e = .returned (.tuple #[]) ∧ w'.ownsRow base 3 1 v zs.length ((zs.mergeSort fun x y => decide (x ≤ y)).map (Value.int .i64)) ∧ w.grownBy w' v.ownBlock := by
  refine callsIn_wide.2 ?_
  rcases hown.2 with ⟨rfl, hn⟩ | ⟨g, cap, cur, rfl, hg, hh, hcap, hmax, hsz, htk⟩
  · obtain rfl : zs = [] := List.length_eq_zero_iff.1 hn
    refine (Try.slices_Sort_int_none none 0 w).mono ?_
    rintro e w' ⟨rfl, rfl⟩
    exact ⟨rfl, by simpa using hown, rfl, rfl, rfl, Nat.le_refl _, fun _ _ _ => rfl⟩
  · have hlt : g < w.heap.size := (Array.getElem?_eq_some_iff.1 hh).1
    have htk' : cur.toList.take zs.length = zs.map (Value.int .i64) := by rw [← htk, Nat.mul_one]
    refine Calls.mono (Try.slices_Sort_int g 0 cap zs w (holds_of_blockI hh htk') hlt (by omega)) ?_
    rintro e w' ⟨rfl, m, os, rfl⟩
    exact ⟨rfl, ownsRow_sortedI (by simp) hg hh hcap hmax hsz, grownBy_sortedI _⟩
open Go.Sort in
theorem compact_at (n : Nat) (w : World) (base : Nat) (v : Value) (zs : List Int) (hown : w.ownsRow base 3 1 v zs.length (zs.map (Value.int .i64))) (hl : zs.length ≤ 1000000000) :
    CallsIn W0 n Try.prog 53 #[v] w fun e w' => (∃ a c, e = .returned (.slice a (Lib.compact zs).length c)) ∧ w.grownBy w' v.ownBlock := by
  refine callsIn_wide.2 ?_
  rcases hown.2 with ⟨rfl, hn⟩ | ⟨g, cap, cur, rfl, hg, hh, hcap, hmax, hsz, htk⟩
  · obtain rfl : zs = [] := List.length_eq_zero_iff.1 hn
    refine (Try.slices_Compact_int_empty none 0 w).mono ?_
    rintro e w' ⟨rfl, rfl⟩
    exact ⟨⟨none, 0, rfl⟩, rfl, rfl, rfl, Nat.le_refl _, fun _ _ _ => rfl⟩
  · have htk' : cur.toList.take zs.length = zs.map (Value.int .i64) := by rw [← htk, Nat.mul_one]
    refine Calls.mono (Try.slices_Compact_int g 0 cap zs w (holds_of_blockI hh htk') (by omega) hcap) ?_
    rintro e w' ⟨rfl, m, rfl⟩
    have hg0 := grownBy_sortedI (w := w) (g := g) (n := m) (os := #[]) (Lib.compact zs ++ List.replicate (zs.length - (Lib.compact zs).length) 0).toArray
    rw [grow_empty] at hg0
    exact ⟨⟨_, _, rfl⟩, hg0⟩
set_option maxHeartbeats 2000000 in
theorem sorted_in (Bs : Nat) (base : Option Addr) (cap : Nat) (zs : List Int) (hreach : zs.length ≤ 1000000000) (w : World) (hBs : Bs < w.heap.size) (hc0 : w.cell? ⟨Bs, 0, none⟩ = some (.slice base zs.length cap)) (hI : Ints w.heap.size w base zs) :
    CallsIn W0 5 Try.prog 51 #[.func (.func 74) #[] #[.pointer (some ⟨Bs, 0, none⟩)]] w fun e W' => ∃ v, e = .returned v ∧ W'.ownsRow w.heap.size 3 1 v zs.length ((zs.mergeSort fun x y => decide (x ≤ y)).map (Value.int .i64)) ∧ Below w.heap.size w W' := by
  refine callsIn_of_wp Try.func51 rfl (wide_fn _) ?_ wide_ro
  simp only [Try.ntmps51, List.size_toArray, List.length_cons, List.length_nil, Nat.reduceAdd, Nat.reduceSub, Array.replicate_succ, Array.replicate_zero, List.push_toArray, List.append_toArray, List.nil_append, List.cons_append]
  gi_wp2_with (refine ⟨wide_fn _, ?_⟩; gi_at_call 72; refine (collect_in Bs base cap zs hreach _ hBs hc0 hI).mono ?_; rintro e w' ⟨v, rfl, hr, hb⟩)
  gi_wp2_with (refine ⟨wide_fn _, ?_⟩; gi_at_call 73; refine (sort_at _ _ _ v zs hr hreach).mono ?_; rintro e w2 ⟨rfl, hr2, hg2⟩)
  go_ret
  exact ⟨v, rfl, hr2, hb.grown hg2 hb.size fun g e => (hr.lt g e).1⟩
theorem sorted_pair (l : List Int) : (l.mergeSort fun x y => decide (x ≤ y)).Pairwise (fun a b => a ≤ b) := by
  have h := List.pairwise_mergeSort (le := fun x y : Int => decide (x ≤ y)) (fun a b c h1 h2 => by simp only [decide_eq_true_eq] at *; omega) (fun a b => by simp only [Bool.or_eq_true, decide_eq_true_eq]; omega) l
  exact h.imp (fun h => of_decide_eq_true h)
theorem keeps_iff (s : List Int) (j : Nat) (hj : j < s.length) : Lib.keeps s.toArray j = true ↔ (j = 0 ∨ s[j] ≠ s[j - 1]'(by omega)) := by
  have h1 : s.toArray[j]! = s[j] := by rw [getElem!_pos _ j (by simpa using hj)]; simp
  have h2 : s.toArray[j - 1]! = s[j - 1]'(by omega) := by rw [getElem!_pos _ (j - 1) (by simp; omega)]; simp
  simp only [Lib.keeps, h1, h2, Bool.or_eq_true, decide_eq_true_eq, bne_iff_ne]
theorem once_lem (l : List Int) : decide (((Lib.compact (l.mergeSort fun x y => decide (x ≤ y))).length : Int) = (l.length : Int)) = decide l.Nodup := by
  have hp := List.mergeSort_perm l (fun x y : Int => decide (x ≤ y))
  have hs := sorted_pair l
  have hlen : l.length = (l.mergeSort fun x y => decide (x ≤ y)).length := by simp
  rw [hlen]
  have hnd : l.Nodup ↔ (l.mergeSort fun x y => decide (x ≤ y)).Nodup := hp.nodup_iff.symm
  rw [decide_eq_decide, hnd]
  generalize (l.mergeSort fun x y => decide (x ≤ y)) = s at hs
  constructor
  · intro h
    have h : (Lib.compact s).length = s.length := by omega
    have hk : ∀ j, j < s.length → Lib.keeps s.toArray j = true := by
      unfold Lib.compact Lib.compactUpTo at h
      rw [List.length_map] at h
      have h2 := List.length_filter_eq_length_iff.1 (h.trans (List.length_range (n := s.length)).symm)
      exact fun j hj => h2 j (List.mem_range.2 hj)
    rw [List.Nodup, List.pairwise_iff_getElem]
    intro i j hi hj hij
    have h1 := (keeps_iff s j hj).1 (hk j hj)
    have h2 : s[j] ≠ s[j - 1] := by
      rcases h1 with h1 | h1
      · omega
      · exact h1
    rw [List.pairwise_iff_getElem] at hs
    have h3 := hs (j - 1) j (by omega) hj (by omega)
    by_cases he : i = j - 1
    · subst he; exact fun e => h2 e.symm
    · have h4 := hs i (j - 1) hi (by omega) (by omega)
      omega
  · intro h
    rw [Lib.compact_all s]
    intro j hj
    rw [keeps_iff s j hj]
    by_cases h0 : j = 0
    · exact Or.inl h0
    · right
      rw [List.Nodup, List.pairwise_iff_getElem] at h
      exact fun e => h (j - 1) j (by omega) hj (by omega) e.symm
set_option maxHeartbeats 2000000 in
theorem once_in (base : Option Addr) (cap : Nat) (zs : List Int) (hreach : zs.length ≤ 1000000000) (w : World) (hI : Ints w.heap.size w base zs) :
    CallsIn W0 6 Try.prog 31 #[.slice base zs.length cap] w fun e W' => e = .returned (.bool (decide (((Lib.compact (zs.mergeSort fun x y => decide (x ≤ y))).length : Int) = (zs.length : Int)))) ∧ Below w.heap.size w W' := by
  refine callsIn_of_wp Try.func31 rfl (wide_fn _) ?_ wide_ro
  simp only [Try.ntmps31, List.size_toArray, List.length_cons, List.length_nil, Nat.reduceAdd, Nat.reduceSub, Array.replicate_succ, Array.replicate_zero, List.push_toArray, List.append_toArray, List.nil_append, List.cons_append]
  have hB1 : Below w.heap.size w (w.alloc (.cells #[.slice base zs.length cap] 25)) := (Below.refl _ w).alloc (Nat.le_refl _) _
  gi_wp2_with (refine ⟨wide_fn _, ?_⟩; gi_at_call 52; refine (values_in _ _ _ _ _).mono ?_; rintro e w' ⟨rfl, rfl⟩)
  gi_wp2_with (refine ⟨wide_fn _, ?_⟩; gi_at_call 51; refine (sorted_in w.heap.size base cap zs hreach _ (by simp) (Boxed.new w 25 _).cell ((hI.below hB1).mono (by simp))).mono ?_; rintro e w' ⟨v, rfl, hr, hb⟩)
  have hr0 : w'.ownsRow (w.alloc (.cells #[.slice base zs.length cap] 25)).heap.size 3 1 v (zs.mergeSort fun x y => decide (x ≤ y)).length ((zs.mergeSort fun x y => decide (x ≤ y)).map (Value.int .i64)) := by rw [List.length_mergeSort]; exact hr
  gi_wp2_with (refine ⟨wide_fn _, ?_⟩; gi_at_call 53; refine (compact_at _ _ _ v _ hr0 (by simpa using hreach)).mono ?_; rintro e w2 ⟨⟨a, c, rfl⟩, hg2⟩)
  go_ret
  refine ⟨rfl, ?_⟩
  exact (hB1.trans (hb.mono (by simp))).grown hg2 (by have := hb.size; simp at this; omega) fun g e => by have := (hr.lt g e).1; simp at this; omega
theorem val31 : Valid Try.prog GW 31 cOnce := by
  refine ⟨⟨Try.f31, Try.func31, by kernel_rfl, rfl⟩, fun w _ S x cs hS hx hpre => ?_⟩
  obtain ⟨l, ⟨⟩⟩ := x
  obtain ⟨c1, c2, rfl, h1, h2⟩ := hx
  obtain rfl : c2 = [] := h2
  have h1' := h1
  obtain ⟨base, cap, rfl, _, _, hne⟩ := h1
  have hl : List.length (α := Int) l ≤ 3000000 := of_decide_eq_true hpre
  have hI : Ints w.heap.size w base l := fun k hk => by
    obtain ⟨b, off, rfl, hb, hel⟩ := hne (fun e => absurd hk (by rw [show l = ([] : List Int) from e]; exact Nat.not_lt_zero _))
    have hx : (l : List Int)[k]? = some ((l : List Int)[k]'hk) := List.getElem?_eq_getElem hk
    obtain ⟨es, ⟨rfl, _⟩, hlies⟩ := hel k _ hx
    have := hlies 0 _ rfl
    refine ⟨b, off, rfl, hS b hb, ?_⟩
    rw [hx]
    have e : off + k * Ty.size I64 + 0 = off + k := by show off + k * 1 + 0 = off + k; omega
    rw [e] at this
    exact this
  refine Calls.mono (callsIn_wide.1 (once_in base cap l (by omega) w hI)) ?_
  rintro e w' ⟨rfl, hb⟩
  refine ⟨hb, [.bool _], rfl, ⟨[.bool _], [], rfl, ?_, rfl⟩, fun h => by cases h⟩
  show [_] = [Value.bool (decide (List.Nodup (α := Int) l))]
  rw [once_lem]
end Go.Proofs.Ytdkcgcgefgeooaa.Bk
namespace Go.Proofs.Ytdkcgcgefgeooaa.Bk
open Go Go.Eng 
set_option maxRecDepth 100000
theorem val39 : Valid Try.prog GW 39 cOn := mkValid gws Tb.mix Tb.tab_ok Tb.eqs_ok g39 rfl allV_nil (allI_cons Try.func67 (by kernel_rfl) allI_nil) Try.func39 (by kernel_rfl) v39
theorem val46 : Valid Try.prog GW 46 cIdx := Valid.T (mkValid gws Tb.mix Tb.tab_ok Tb.eqs_ok g46 rfl allV_nil allI_nil Try.func46 (by kernel_rfl) v46)
theorem val43 : Valid Try.prog GW 43 cIdx := Valid.T (mkValid gws Tb.mix Tb.tab_ok Tb.eqs_ok g43 rfl allV_nil allI_nil Try.func43 (by kernel_rfl) v43)
theorem val48 : Valid Try.prog GW 48 ((cClone 3 8 I64)) := mkValid gws Tb.mix Tb.tab_ok Tb.eqs_ok g48 rfl allV_nil allI_nil Try.func48 (by kernel_rfl) v48
theorem val71 : Valid Try.prog GW 71 cPart := Valid.T (mkValid gws Tb.mix Tb.tab_ok Tb.eqs_ok g71 rfl (allV_cons val39 allV_nil) (allI_cons Try.func69 (by kernel_rfl) allI_nil) Try.func71 (by kernel_rfl) v71)
theorem val70 : Valid Try.prog GW 70 cStarts := mkValid gws Tb.mix Tb.tab_ok Tb.eqs_ok g70 rfl (allV_cons val39 allV_nil) (allI_cons Try.func69 (by kernel_rfl) allI_nil) Try.func70 (by kernel_rfl) v70
theorem val62 : Valid Try.prog GW 62 cJoin := mkValid gws Tb.mix Tb.tab_ok Tb.eqs_ok g62 rfl allV_nil (allI_cons Try.func69 (by kernel_rfl) allI_nil) Try.func62 (by kernel_rfl) v62
theorem val65 : Valid Try.prog GW 65 cEnd := mkValid gws Tb.mix Tb.tab_ok Tb.eqs_ok g65 rfl allV_nil (allI_cons Try.func40 (by kernel_rfl) (allI_cons Try.func69 (by kernel_rfl) allI_nil)) Try.func65 (by kernel_rfl) v65
theorem val44 : Valid Try.prog GW 44 cBegin := mkValid gws Tb.mix Tb.tab_ok Tb.eqs_ok g44 rfl (allV_cons val39 allV_nil) (allI_cons Try.func69 (by kernel_rfl) allI_nil) Try.func44 (by kernel_rfl) v44
theorem val30 : Valid Try.prog GW 30 cFlCk := mkValid gws Tb.mix Tb.tab_ok Tb.eqs_ok g30 rfl (allV_cons val39 allV_nil) (allI_cons Try.func69 (by kernel_rfl) allI_nil) Try.func30 (by kernel_rfl) v30
theorem val24 : Valid Try.prog GW 24 cFlCk := mkValid gws Tb.mix Tb.tab_ok Tb.eqs_ok g24 rfl allV_nil allI_nil Try.func24 (by kernel_rfl) v24
theorem val13 : Valid Try.prog GW 13 cOwns := mkValid gws Tb.mix Tb.tab_ok Tb.eqs_ok g13 rfl allV_nil allI_nil Try.func13 (by kernel_rfl) v13
theorem val23 : Valid Try.prog GW 23 cOwns := mkValid gws Tb.mix Tb.tab_ok Tb.eqs_ok g23 rfl allV_nil allI_nil Try.func23 (by kernel_rfl) v23
theorem val25 : Valid Try.prog GW 25 cTwice3 := mkValid gws Tb.mix Tb.tab_ok Tb.eqs_ok g25 rfl (allV_cons val43 allV_nil) allI_nil Try.func25 (by kernel_rfl) v25
theorem val10 : Valid Try.prog GW 10 cCk := mkValid gws Tb.mix Tb.tab_ok Tb.eqs_ok g10 rfl (allV_cons val13 (allV_cons val30 (allV_cons val31 allV_nil))) allI_nil Try.func10 (by kernel_rfl) v10
theorem val7 : Valid Try.prog GW 7 cCk := mkValid gws Tb.mix Tb.tab_ok Tb.eqs_ok g7 rfl (allV_cons val23 (allV_cons val24 (allV_cons val25 allV_nil))) allI_nil Try.func7 (by kernel_rfl) v7
theorem val6 : Valid Try.prog GW 6 cGreat := mkValid gws Tb.mix Tb.tab_ok Tb.eqs_ok g6 rfl allV_nil allI_nil Try.func6 (by kernel_rfl) v6
theorem val33 : Valid Try.prog GW 33 ((cSam I64)) := Valid.T (mkValid gws Tb.mix Tb.tab_ok Tb.eqs_ok g33 rfl allV_nil allI_nil Try.func33 (by kernel_rfl) v33)
theorem val54 : Valid Try.prog GW 54 ((cSam RestT)) := Valid.T (mkValid gws Tb.mix Tb.tab_ok Tb.eqs_ok g54 rfl allV_nil allI_nil Try.func54 (by kernel_rfl) v54)
theorem val55 : Valid Try.prog GW 55 ((cSam ScT)) := Valid.T (mkValid gws Tb.mix Tb.tab_ok Tb.eqs_ok g55 rfl allV_nil allI_nil Try.func55 (by kernel_rfl) v55)
theorem val32 : Valid Try.prog GW 32 ((cSam RestT)) := mkValid gws Tb.mix Tb.tab_ok Tb.eqs_ok g32 rfl (allV_cons val54 allV_nil) allI_nil Try.func32 (by kernel_rfl) v32
theorem val34 : Valid Try.prog GW 34 ((cSam ScT)) := mkValid gws Tb.mix Tb.tab_ok Tb.eqs_ok g34 rfl (allV_cons val55 allV_nil) allI_nil Try.func34 (by kernel_rfl) v34
theorem val11 : Valid Try.prog GW 11 cSameB := mkValid gws Tb.mix Tb.tab_ok Tb.eqs_ok g11 rfl (allV_cons val32 (allV_cons val33 (allV_cons val34 allV_nil))) allI_nil Try.func11 (by kernel_rfl) v11
theorem val12 : Valid Try.prog GW 12 ((cSam I64)) := Valid.T (mkValid gws Tb.mix Tb.tab_ok Tb.eqs_ok g12 rfl allV_nil allI_nil Try.func12 (by kernel_rfl) v12)
theorem val9 : Valid Try.prog GW 9 cQuit := mkValidM gws Tb.mix Tb.tab_ok Tb.eqs_ok (by kernel_rfl) g9 rfl (allM_cons mval47 allM_nil) (allV_cons val46 (allV_cons val48 (allV_cons val70 (allV_cons val71 allV_nil)))) (allI_cons Try.func27 (by kernel_rfl) (allI_cons Try.func28 (by kernel_rfl) (allI_cons Try.func29 (by kernel_rfl) (allI_cons Try.func45 (by kernel_rfl) (allI_cons Try.func49 (by kernel_rfl) (allI_cons Try.func50 (by kernel_rfl) (allI_cons Try.func58 (by kernel_rfl) allI_nil))))))) Try.func9 (by kernel_rfl) v9
end Go.Proofs.Ytdkcgcgefgeooaa.Bk
set_option maxRecDepth 100000
namespace Go.Proofs.Ytdkcgcgefgeooaa.Bk
open Go Go.Eng
/-! ticks -/
def clT (t : Int) : Int := min (max t 0) 1073741824
def oldT (since age now : Int) : Bool := decide (clT (clT since + clT age) ≤ clT now)
def spent (long now : Int) (dead : List Int) (r : Rs) : Bool := dead.any (fun y => decide (y = r.1)) || oldT r.2.1 long now
/-! the last one that is good -/
def topQ (long now : Int) (dead : List Int) (l : List Rs) : List Rs := (l.reverse.dropWhile (spent long now dead)).reverse
def topO (long now : Int) (dead : List Int) (l : List Rs) : List Int := (l.reverse.takeWhile (spent long now dead)).map skOf
def topK (long now : Int) (dead : List Int) (l : List Rs) : Bool := decide (topQ long now dead l ≠ [])
def topS (long now : Int) (dead : List Int) (l : List Rs) : Int := match (topQ long now dead l).getLast? with
  | some r => r.1
  | none => -1
def topR (long now : Int) (dead : List Int) (l : List Rs) : List Rs := (topQ long now dead l).dropLast
abbrev aTop : Ty := .cons (.sl RestT) (.cons I64 (.cons I64 (.cons IL .unit)))
def nilR (l : List Rs) : Bool := decide (l.length = 0)
def cTop : Contract := conD aTop (.cons I64 (.cons (.sl RestT) (.cons IL (.cons .bool .unit)))) (fun x => nilR x.1) fun x =>
  (topS x.2.1 x.2.2.1 x.2.2.2.1 x.1, (topR x.2.1 x.2.2.1 x.2.2.2.1 x.1, (topO x.2.1 x.2.2.1 x.2.2.2.1 x.1, (topK x.2.1 x.2.2.1 x.2.2.2.1 x.1, ()))))
/-! scars -/
def noteS (l : List Sc) : List Sc := l.drop (l.length - 32)
def cNote : Contract := conD (.cons (.sl ScT) (.cons I64 (.cons (.sl AdT) .unit))) (.cons (.sl ScT) .unit) (fun x => decide (List.length (α := Sc) x.1 ≤ 1000000) && decide (List.length (α := Ad) x.2.2.1 = 0)) fun x => (noteS x.1, ())
/-! decisions -/
def hasN (l : List Int) (x : Int) : Bool := l.any fun y => decide (y = x)
def cHas : Contract := conD (.cons IL (.cons I64 .unit)) (.cons .bool .unit) (fun _ => true) fun x => (hasN x.1 x.2.1, ())
/-- what a decision comes to: a book, replies, sockets to shut, whether a race is cut -/
abbrev Dc := Bk × List Rp × List Int × Bool
def outB (d : Dc) : Bk := d.1
def outT (d : Dc) : Tn := (d.2.1, d.2.2.1, endsB d.1, d.2.2.2, ())
def fileD (b : Bk) (re : List Rp) (sh : List Int) (sock now : Int) : Dc := match b.2.2.2.1 with
  | c :: wa => (mkB b.1 b.2.1 (b.2.2.1 ++ [sock]) wa (partF b.2.2.2.2.1 1) b.2.2.2.2.2.1 b.2.2.2.2.2.2.1, re ++ [(c, sock, 0, ())], sh, partC b.2.2.2.2.1 1)
  | [] => bif decide ((b.2.1.length : Int) < b.1.2.1) then (mkB b.1 (b.2.1 ++ [(sock, now, ())]) b.2.2.1 b.2.2.2.1 b.2.2.2.2.1 b.2.2.2.2.2.1 b.2.2.2.2.2.2.1, re, sh, false) else (b, re, sh ++ [sock], false)
def askD (b : Bk) (c now : Int) (dead : List Int) : Dc :=
  bif b.2.2.2.2.2.2.1 then (b, [(c, -1, 240, ())], [], false) else
    bif topK b.1.2.2.2.2.2.1 now dead b.2.1 then (mkB b.1 (topR b.1.2.2.2.2.2.1 now dead b.2.1) (b.2.2.1 ++ [topS b.1.2.2.2.2.2.1 now dead b.2.1]) b.2.2.2.1 b.2.2.2.2.1 b.2.2.2.2.2.1 b.2.2.2.2.2.2.1, [(c, topS b.1.2.2.2.2.2.1 now dead b.2.1, 0, ())], topO b.1.2.2.2.2.2.1 now dead b.2.1, false) else
      bif decide (b.1.2.2.1 ≤ (b.2.2.2.1.length : Int)) then (mkB b.1 (topR b.1.2.2.2.2.2.1 now dead b.2.1) b.2.2.1 b.2.2.2.1 b.2.2.2.2.1 b.2.2.2.2.2.1 b.2.2.2.2.2.2.1, [(c, -1, 230, ())], topO b.1.2.2.2.2.2.1 now dead b.2.1, false) else
        (mkB b.1 (topR b.1.2.2.2.2.2.1 now dead b.2.1) b.2.2.1 (b.2.2.2.1 ++ [c]) (joinF b.2.2.2.2.1) b.2.2.2.2.2.1 b.2.2.2.2.2.2.1, [], topO b.1.2.2.2.2.2.1 now dead b.2.1, false)
def askOk (b : Bk) (dead : List Int) : Bool := szB b && (szI dead && nilR b.2.1)
def cAsk : Contract := conD (.cons BookT (.cons I64 (.cons I64 (.cons IL .unit)))) (.cons BookT (.cons TurnT .unit)) (fun x => askOk x.1 x.2.2.2.1) fun x => (outB (askD x.1 x.2.1 x.2.2.1 x.2.2.2.1), (outT (askD x.1 x.2.1 x.2.2.1 x.2.2.2.1), ()))
def backD (b : Bk) (c sock : Int) (keep : Bool) (now : Int) (dead : List Int) : Dc :=
  bif b.2.2.2.2.2.2.1 then (b, [(c, -1, 240, ())], [], false) else
    bif decide (idxN sock b.2.2.1 < 0) then (b, [(c, -1, 80, ())], [], false) else
      bif keep && !hasN dead sock then fileD (mkB b.1 b.2.1 (delL b.2.2.1 (idxN sock b.2.2.1) (idxN sock b.2.2.1 + 1)) b.2.2.2.1 b.2.2.2.2.1 b.2.2.2.2.2.1 b.2.2.2.2.2.2.1) [(c, -1, 0, ())] [] sock now else
        (mkB b.1 b.2.1 (delL b.2.2.1 (idxN sock b.2.2.1) (idxN sock b.2.2.1 + 1)) b.2.2.2.1 b.2.2.2.2.1 b.2.2.2.2.2.1 b.2.2.2.2.2.2.1, [(c, -1, 0, ())], [sock], false)
def cBack : Contract := conD (.cons BookT (.cons I64 (.cons I64 (.cons .bool (.cons I64 (.cons IL .unit)))))) (.cons BookT (.cons TurnT .unit)) (fun x => szB x.1 && szI x.2.2.2.2.2.1) fun x =>
  (outB (backD x.1 x.2.1 x.2.2.1 x.2.2.2.1 x.2.2.2.2.1 x.2.2.2.2.2.1), (outT (backD x.1 x.2.1 x.2.2.1 x.2.2.2.1 x.2.2.2.2.1 x.2.2.2.2.2.1), ()))
def failL (l : List Int) (e : Int) : List Rp := l.map fun c => (c, -1, e, ())
def allD (b : Bk) (e : Int) : Dc := (mkB b.1 b.2.1 b.2.2.1 [] (partF b.2.2.2.2.1 (b.2.2.2.1.length : Int)) b.2.2.2.2.2.1 b.2.2.2.2.2.2.1, failL b.2.2.2.1 e, [], partC b.2.2.2.2.1 (b.2.2.2.1.length : Int))
def endB (b : Bk) : Bk := mkB b.1 b.2.1 b.2.2.1 b.2.2.2.1 (endF b.2.2.2.2.1) (noteS b.2.2.2.2.2.1) b.2.2.2.2.2.2.1
def toldD (b : Bk) (sock e now : Int) (dead : List Int) : Dc :=
  bif decide (e = 0) && (b.2.2.2.2.2.2.1 || hasN dead sock) then (endB b, [], [sock], false) else
    bif decide (e = 0) then fileD (endB b) [] [] sock now else
      bif decide (e ≠ 191) then allD (endB b) e else (endB b, [], [], false)
def cTold : Contract := conD (.cons BookT (.cons I64 (.cons I64 (.cons (.sl AdT) (.cons I64 (.cons IL .unit)))))) (.cons BookT (.cons TurnT .unit)) (fun x => (szB x.1 && szI x.2.2.2.2.2.1) && decide (List.length (α := Ad) x.2.2.2.1 = 0)) fun x =>
  (outB (toldD x.1 x.2.1 x.2.2.1 x.2.2.2.2.1 x.2.2.2.2.2.1), (outT (toldD x.1 x.2.1 x.2.2.1 x.2.2.2.2.1 x.2.2.2.2.2.1), ()))
def closeD (b : Bk) (c : Int) : Dc :=
  bif b.2.2.2.2.2.2.1 then (b, [(c, -1, 240, ())], [], false) else
    (mkB b.1 [] [] [] (partF b.2.2.2.2.1 (b.2.2.2.1.length : Int)) b.2.2.2.2.2.1 true, failL b.2.2.2.1 240 ++ [(c, -1, 0, ())], ownsL b, partC b.2.2.2.2.1 (b.2.2.2.1.length : Int))
def cClose : Contract := conD (.cons BookT (.cons I64 .unit)) (.cons BookT (.cons TurnT .unit)) (fun x => szB x.1) fun x => (outB (closeD x.1 x.2.1), (outT (closeD x.1 x.2.1), ()))
def cNone : Contract := conD .unit (.cons FlT .unit) (fun _ => true) fun _ => (noneF, ())
def cNew : Contract := conD (.cons ConfT .unit) (.cons BookT .unit) (fun _ => true) fun x => (mkB x.1 [] [] [] noneF [] false, ())
def cOver : Contract := conD (.cons BookT .unit) (.cons .bool .unit) (fun _ => true) fun x => (x.1.2.2.2.2.2.2.1 && !onF x.1.2.2.2.2.1, ())
def startB (b : Bk) (r : Int) : Bk := bif decide (beginE b.2.2.2.2.1 r = 0) then mkB b.1 b.2.1 b.2.2.1 b.2.2.2.1 (beginF b.2.2.2.2.1 r) b.2.2.2.2.2.1 b.2.2.2.2.2.2.1 else b
def cStarted : Contract := conD (.cons BookT (.cons I64 .unit)) (.cons BookT (.cons I64 .unit)) (fun _ => true) fun x => (startB x.1 x.2.1, (beginE x.1.2.2.2.2.1 x.2.1, ()))
/-- the loop that tells all who wait -/
structure AlI (l : List Int) (e : Int) (i : Int) (o : List Rp) : Prop where
  i0 : 0 ≤ i
  i1 : i ≤ l.length
  a : o = failL (l.take i.toNat) e
def ledO (s : St) : Nat := match Go.Eng.look s.env 0 with
  | .pt o _ => o
  | _ => 0
def ledC (s : St) : List D := match lookO s.own (ledO s) with
  | .cells _ ds => ds
  | _ => []
def alA : LoopAnn where
  α := Int × List Rp
  keep := [0, 1, 11, 12]
  okeep := []
  nxt := 9100
  env := fun _ x => [(13, .dat I64 x.1)]
  own := fun s x => [(ledO s, .cells 86 ((ledC s).set 17 (.own 9000))), (9000, .row 41 RepT x.2)]
  inv := fun s x => AlI (bDat IL s 11).out (bDat I64 s 1).out x.1 x.2
  mu := fun s x => List.length (α := Int) (bDat IL s 11).out - x.1.toNat
  pick := some fun _ s => ((bDat I64 s 13).out, (cRow RepT s 0 17).out)
def ntA : LoopAnn where
  α := Int
  keep := [2, 12, 13]
  okeep := []
  nxt := 950
  env := fun _ x => [(14, .dat I64 x), (7, .own 900)]
  own := fun s _ => [(900, .row 100 ScT (bRow ScT s 7).out)]
  inv := fun _ x => x = 0
  mu := fun _ _ => 0
  pick := some fun _ s => (bDat I64 s 14).out
end Go.Proofs.Ytdkcgcgefgeooaa.Bk
namespace Go.Proofs.Ytdkcgcgefgeooaa.Bk
open Go Go.Eng 
set_option maxRecDepth 100000
noncomputable def g61 : Cfg := { tab := Tb.tab, cons := [], inls := [], loops := [], cuts := [], unroll := false, arrs := [], keys := [] }
noncomputable def g79 : Cfg := { tab := Tb.tab, cons := [], inls := [], loops := [], cuts := [], unroll := false, arrs := [], keys := [] }
noncomputable def g80 : Cfg := { tab := Tb.tab, cons := [], inls := [], loops := [], cuts := [], unroll := false, arrs := [], keys := [] }
noncomputable def g78 : Cfg := { tab := Tb.tab, cons := [(46, cIdx)], inls := [], loops := [], cuts := [], unroll := false, arrs := [], keys := [] }
noncomputable def g66 : Cfg := { tab := Tb.tab, cons := [(80, (cClone 100 40 ScT))], inls := [], loops := [(3, ntA)], cuts := [], unroll := false, arrs := [], keys := [] }
noncomputable def g40 : Cfg := { tab := Tb.tab, cons := [], inls := [], loops := [], cuts := [], unroll := false, arrs := [], keys := [] }
noncomputable def g19 : Cfg := { tab := Tb.tab, cons := [(40, cNone)], inls := [], loops := [], cuts := [], unroll := false, arrs := [], keys := [] }
noncomputable def g18 : Cfg := { tab := Tb.tab, cons := [(39, cOn)], inls := [], loops := [], cuts := [], unroll := false, arrs := [], keys := [] }
noncomputable def g26 : Cfg := { tab := Tb.tab, cons := [(44, cBegin)], inls := [], loops := [], cuts := [], unroll := false, arrs := [], keys := [] }
noncomputable def g15 : Cfg := { tab := Tb.tab, cons := [(59, cTop), (61, (cClip I64)), (62, cJoin), (70, cStarts)], inls := [(27, Try.f27), (29, Try.f29), (36, Try.f36), (45, Try.f45), (49, Try.f49), (50, Try.f50), (57, Try.f57), (58, Try.f58), (60, Try.f60)], loops := [], cuts := [], unroll := false, arrs := [], keys := [] }
noncomputable def g16 : Cfg := { tab := Tb.tab, cons := [(46, cIdx), (48, (cClone 3 8 I64)), (61, (cClip I64)), (70, cStarts), (71, cPart), (78, cHas), (79, (cClip RestT))], mcons := [(47, mDel)], inls := [(27, Try.f27), (29, Try.f29), (37, Try.f37), (45, Try.f45), (49, Try.f49), (50, Try.f50), (57, Try.f57), (58, Try.f58), (60, Try.f60), (63, Try.f63), (64, Try.f64)], loops := [], cuts := [], unroll := false, arrs := [], keys := [] }
end Go.Proofs.Ytdkcgcgefgeooaa.Bk
namespace Go.Proofs.Ytdkcgcgefgeooaa.Bk
open Go Go.Eng 
set_option maxRecDepth 100000
theorem v61_eq : vcFn g61 300 Try.f61 ((cClip I64)) = ( ∀ (x : List Int × Unit), Wr True → Wr ((0 : Int) ≤ (0 : Int)) ∧ Wr ((0 : Int) ≤ (↑(List.length x.fst) : Int)) ∧ Wr ((↑(List.length x.fst) : Int) ≤ (↑(List.length x.fst) : Int)) ∧ Wr ((↑(List.length x.fst) : Int) =
  (↑(List.length x.fst) : Int)) ∧ (List.drop (Int.toNat (0 : Int)) (List.take (Int.toNat (↑(List.length x.fst) : Int)) x.fst), ()) = x) := by kernel_rfl
theorem v79_eq : vcFn g79 300 Try.f79 ((cClip RestT)) = ( ∀ (x : List (Int × Int × Unit) × Unit), Wr True → Wr ((0 : Int) ≤ (0 : Int)) ∧ Wr ((0 : Int) ≤ (↑(List.length x.fst) : Int)) ∧ Wr ((↑(List.length x.fst) : Int) ≤ (↑(List.length x.fst) : Int)) ∧ Wr ((↑(List.length x.fst)
  : Int) = (↑(List.length x.fst) : Int)) ∧ (List.drop (Int.toNat (0 : Int)) (List.take (Int.toNat (↑(List.length x.fst) : Int)) x.fst), ()) = x) := by kernel_rfl
theorem v80_eq : vcFn g80 300 Try.f80 ((cClone 100 40 ScT)) = ( ∀ (x : List ((Int × (Int × Int × Int × Int × Int × Int × Int × Int × Unit) × Int × Unit) × Int × Unit) × Unit), Wr (Decidable.decide (List.length x.fst * (40 : Nat) ≤ (140737488355328 : Nat)) = Bool.true) → ∀ (b : Bool),
  Wr (b = Bool.true → x.fst = nilL ((Int × (Int × Int × Int × Int × Int × Int × Int × Int × Unit) × Int × Unit) × Int × Unit)) → bcase b (x.fst = nilL ((Int × (Int × Int × Int × Int × Int × Int × Int × Int × Unit) × Int ×
  Unit) × Int × Unit)) (Wr ((List.length (nilL ((Int × (Int × Int × Int × Int × Int × Int × Int × Int × Unit) × Int × Unit) × Int × Unit)) + List.length x.fst) * (40 : Nat) ≤ (140737488355328 : Nat)) ∧ nilL ((Int × (Int ×
  Int × Int × Int × Int × Int × Int × Int × Unit) × Int × Unit) × Int × Unit) ++ x.fst = x.fst)) := by kernel_rfl
theorem v78_eq : vcFn g78 300 Try.f78 cHas = ( ∀ (x : List Int × Int × Unit), Wr (Bool.true = Bool.true) → Wr (Bool.true = Bool.true) ∧ (Decidable.decide (idxN x.snd.fst x.fst ≥ (0 : Int)), ()) = (hasN x.fst x.snd.fst, ())) := by kernel_rfl
theorem v66_eq : vcFn g66 300 Try.f66 cNote = ( ∀ (x : List ((Int × (Int × Int × Int × Int × Int × Int × Int × Int × Unit) × Int × Unit) × Int × Unit) × Int × List (Int × (Int × Int × Int × Int × Int × Int × Int × Int × Unit) × Int × Unit) × Unit), Wr
  ((Decidable.decide (List.length x.fst ≤ (1000000 : Nat)) && Decidable.decide (List.length x.snd.snd.fst = (0 : Nat))) = Bool.true) → Wr (Decidable.decide (List.length x.fst * (40 : Nat) ≤ (140737488355328 : Nat)) =
  Bool.true) ∧ (Wr ((0 : Int) = (0 : Int)) ∧ Wr ((0 : Int) = (0 : Int)) ∧ Wr (x.snd.snd.fst = x.snd.snd.fst) ∧ Wr (x.snd.snd.fst = x.snd.snd.fst) ∧ Wr ((↑(List.length x.snd.snd.fst) : Int) = (↑(List.length x.snd.snd.fst)
  : Int)) ∧ Wr (x.fst = x.fst)) ∧ ∀ (x_1 : Int), Wr (x_1 = (0 : Int)) → bcase (Decidable.decide (x_1 < (↑(List.length x.snd.snd.fst) : Int))) (Wr ((0 : Int) ≤ x_1) ∧ Wr (x_1 < (↑(List.length x.snd.snd.fst) : Int)) ∧ Wr
  (Bool.true = Bool.true) ∧ Fail (nat_lit 1030) (nat_lit 5)) (Wr ((0 : Int) ≤ Max.max (0 : Int) (IntKind.wrap IntKind.i64 ((↑(List.length x.fst) : Int) - (32 : Int)))) ∧ Wr (Max.max (0 : Int) (IntKind.wrap IntKind.i64
  ((↑(List.length x.fst) : Int) - (32 : Int))) ≤ (↑(List.length x.fst) : Int)) ∧ Wr ((↑(List.length x.fst) : Int) ≤ (↑(List.length x.fst) : Int)) ∧ (List.drop (Int.toNat (Max.max (0 : Int) (IntKind.wrap IntKind.i64
  ((↑(List.length x.fst) : Int) - (32 : Int))))) (List.take (Int.toNat (↑(List.length x.fst) : Int)) x.fst), ()) = (noteS x.fst, ()))) := by kernel_rfl
theorem v40_eq : vcFn g40 300 Try.f40 cNone = ( ∀ (x : Unit), Wr (Bool.true = Bool.true) → (((-1 : Int), Bool.false, (0 : Int), ()), ()) = (noneF, ())) := by kernel_rfl
theorem v19_eq : vcFn g19 300 Try.f19 cNew = ( ∀ (x : (Int × Int × Int × Int × Int × Int × Int × Int × Int × Unit) × Unit), Wr (Bool.true = Bool.true) → Wr (Bool.true = Bool.true) ∧ ((x.fst, nilL (Int × Int × Unit), nilL Int, nilL Int, noneF, nilL ((Int × (Int × Int
  × Int × Int × Int × Int × Int × Int × Unit) × Int × Unit) × Int × Unit), Bool.false, ()), ()) = (mkB x.fst (nilL (Int × Int × Unit)) (nilL Int) (nilL Int) noneF (nilL ((Int × (Int × Int × Int × Int × Int × Int × Int ×
  Int × Unit) × Int × Unit) × Int × Unit)) Bool.false, ())) := by kernel_rfl
theorem v18_eq : vcFn g18 300 Try.f18 cOver = ( ∀ (x : ((Int × Int × Int × Int × Int × Int × Int × Int × Int × Unit) × List (Int × Int × Unit) × List Int × List Int × (Int × Bool × Int × Unit) × List ((Int × (Int × Int × Int × Int × Int × Int × Int × Int × Unit) × Int
  × Unit) × Int × Unit) × Bool × Unit) × Unit), Wr (Bool.true = Bool.true) → Wr (x.fst.snd.snd.snd.snd.snd.snd.fst = Bool.true → Bool.true = Bool.true) ∧ (x.fst.snd.snd.snd.snd.snd.snd.fst && !onF
  x.fst.snd.snd.snd.snd.fst, ()) = (x.fst.snd.snd.snd.snd.snd.snd.fst && !onF x.fst.snd.snd.snd.snd.fst, ())) := by kernel_rfl
theorem v26_eq : vcFn g26 300 Try.f26 cStarted = ( ∀ (x : ((Int × Int × Int × Int × Int × Int × Int × Int × Int × Unit) × List (Int × Int × Unit) × List Int × List Int × (Int × Bool × Int × Unit) × List ((Int × (Int × Int × Int × Int × Int × Int × Int × Int × Unit) × Int
  × Unit) × Int × Unit) × Bool × Unit) × Int × Unit), Wr (Bool.true = Bool.true) → Wr (Bool.true = Bool.true) ∧ bcase (Decidable.decide (beginE x.fst.snd.snd.snd.snd.fst x.snd.fst = (0 : Int))) (((x.fst.fst,
  x.fst.snd.fst, x.fst.snd.snd.fst, x.fst.snd.snd.snd.fst, beginF x.fst.snd.snd.snd.snd.fst x.snd.fst, x.fst.snd.snd.snd.snd.snd), beginE x.fst.snd.snd.snd.snd.fst x.snd.fst, ()) = (startB x.fst x.snd.fst, beginE
  x.fst.snd.snd.snd.snd.fst x.snd.fst, ())) ((x.fst, beginE x.fst.snd.snd.snd.snd.fst x.snd.fst, ()) = (startB x.fst x.snd.fst, beginE x.fst.snd.snd.snd.snd.fst x.snd.fst, ()))) := by kernel_rfl
theorem v15_eq : vcFn g15 300 Try.f15 cAsk = ( ∀ (x : ((Int × Int × Int × Int × Int × Int × Int × Int × Int × Unit) × List (Int × Int × Unit) × List Int × List Int × (Int × Bool × Int × Unit) × List ((Int × (Int × Int × Int × Int × Int × Int × Int × Int × Unit) × Int
  × Unit) × Int × Unit) × Bool × Unit) × Int × Int × List Int × Unit), Wr (askOk x.fst x.snd.snd.snd.fst = Bool.true) → bcase x.fst.snd.snd.snd.snd.snd.snd.fst (Wr (List.length ((x.snd.fst, (-1 : Int), (240 : Int), ()) ::
  nilL (Int × Int × Int × Unit)) * (24 : Nat) ≤ (140737488355328 : Nat)) ∧ Wr ((!x.fst.snd.snd.snd.snd.snd.snd.fst) = Bool.true → Bool.true = Bool.true) ∧ (x.fst, ((x.snd.fst, (-1 : Int), (240 : Int), ()) :: nilL (Int ×
  Int × Int × Unit), nilL Int, !x.fst.snd.snd.snd.snd.snd.snd.fst && startsF x.fst.snd.snd.snd.snd.fst, Bool.false, ()), ()) = (outB (askD x.fst x.snd.fst x.snd.snd.fst x.snd.snd.snd.fst), outT (askD x.fst x.snd.fst
  x.snd.snd.fst x.snd.snd.snd.fst), ())) (Wr (nilR x.fst.snd.fst = Bool.true) ∧ Wr (List.length (topO x.fst.fst.snd.snd.snd.snd.snd.fst x.snd.snd.fst x.snd.snd.snd.fst x.fst.snd.fst) * (8 : Nat) ≤ (140737488355328 : Nat))
  ∧ bcase (topK x.fst.fst.snd.snd.snd.snd.snd.fst x.snd.snd.fst x.snd.snd.snd.fst x.fst.snd.fst) (Wr True ∧ Wr ((List.length x.fst.snd.snd.fst + List.length (topS x.fst.fst.snd.snd.snd.snd.snd.fst x.snd.snd.fst
  x.snd.snd.snd.fst x.fst.snd.fst :: nilL Int)) * (8 : Nat) ≤ (140737488355328 : Nat)) ∧ Wr ((0 : Nat) < List.length (topS x.fst.fst.snd.snd.snd.snd.snd.fst x.snd.snd.fst x.snd.snd.snd.fst x.fst.snd.fst :: nilL Int)) ∧ Wr
  (List.length ((x.snd.fst, topS x.fst.fst.snd.snd.snd.snd.snd.fst x.snd.snd.fst x.snd.snd.snd.fst x.fst.snd.fst, (0 : Int), ()) :: nilL (Int × Int × Int × Unit)) * (24 : Nat) ≤ (140737488355328 : Nat)) ∧ Wr
  ((!x.fst.snd.snd.snd.snd.snd.snd.fst) = Bool.true → Bool.true = Bool.true) ∧ ((x.fst.fst, topR x.fst.fst.snd.snd.snd.snd.snd.fst x.snd.snd.fst x.snd.snd.snd.fst x.fst.snd.fst, x.fst.snd.snd.fst ++ topS
  x.fst.fst.snd.snd.snd.snd.snd.fst x.snd.snd.fst x.snd.snd.snd.fst x.fst.snd.fst :: nilL Int, x.fst.snd.snd.snd), ((x.snd.fst, topS x.fst.fst.snd.snd.snd.snd.snd.fst x.snd.snd.fst x.snd.snd.snd.fst x.fst.snd.fst, (0 :
  Int), ()) :: nilL (Int × Int × Int × Unit), topO x.fst.fst.snd.snd.snd.snd.snd.fst x.snd.snd.fst x.snd.snd.snd.fst x.fst.snd.fst, !x.fst.snd.snd.snd.snd.snd.snd.fst && startsF x.fst.snd.snd.snd.snd.fst, Bool.false, ()),
  ()) = (outB (askD x.fst x.snd.fst x.snd.snd.fst x.snd.snd.snd.fst), outT (askD x.fst x.snd.fst x.snd.snd.fst x.snd.snd.snd.fst), ())) (bcase (Decidable.decide ((↑(List.length x.fst.snd.snd.snd.fst) : Int) ≥
  x.fst.fst.snd.snd.fst)) (Wr (List.length ((x.snd.fst, (-1 : Int), (230 : Int), ()) :: nilL (Int × Int × Int × Unit)) * (24 : Nat) ≤ (140737488355328 : Nat)) ∧ Wr ((!x.fst.snd.snd.snd.snd.snd.snd.fst) = Bool.true →
  Bool.true = Bool.true) ∧ ((x.fst.fst, topR x.fst.fst.snd.snd.snd.snd.snd.fst x.snd.snd.fst x.snd.snd.snd.fst x.fst.snd.fst, x.fst.snd.snd), ((x.snd.fst, (-1 : Int), (230 : Int), ()) :: nilL (Int × Int × Int × Unit),
  topO x.fst.fst.snd.snd.snd.snd.snd.fst x.snd.snd.fst x.snd.snd.snd.fst x.fst.snd.fst, !x.fst.snd.snd.snd.snd.snd.snd.fst && startsF x.fst.snd.snd.snd.snd.fst, Bool.false, ()), ()) = (outB (askD x.fst x.snd.fst
  x.snd.snd.fst x.snd.snd.snd.fst), outT (askD x.fst x.snd.fst x.snd.snd.fst x.snd.snd.snd.fst), ())) (Wr True ∧ Wr ((List.length x.fst.snd.snd.snd.fst + List.length (x.snd.fst :: nilL Int)) * (8 : Nat) ≤ (140737488355328
  : Nat)) ∧ Wr ((0 : Nat) < List.length (x.snd.fst :: nilL Int)) ∧ Wr ((Decidable.decide (x.fst.snd.snd.snd.snd.fst.snd.snd.fst ≤ (1152921504606846976 : Ty.El I64)) && Decidable.decide (List.length (x.snd.fst :: nilL Int)
  = (1 : Nat))) = Bool.true) ∧ Wr ((!x.fst.snd.snd.snd.snd.snd.snd.fst) = Bool.true → Bool.true = Bool.true) ∧ ((x.fst.fst, topR x.fst.fst.snd.snd.snd.snd.snd.fst x.snd.snd.fst x.snd.snd.snd.fst x.fst.snd.fst,
  x.fst.snd.snd.fst, x.fst.snd.snd.snd.fst ++ x.snd.fst :: nilL Int, joinF x.fst.snd.snd.snd.snd.fst, x.fst.snd.snd.snd.snd.snd), (nilL (Int × Int × Int × Unit), topO x.fst.fst.snd.snd.snd.snd.snd.fst x.snd.snd.fst
  x.snd.snd.snd.fst x.fst.snd.fst, !x.fst.snd.snd.snd.snd.snd.snd.fst && startsF (joinF x.fst.snd.snd.snd.snd.fst), Bool.false, ()), ()) = (outB (askD x.fst x.snd.fst x.snd.snd.fst x.snd.snd.snd.fst), outT (askD x.fst
  x.snd.fst x.snd.snd.fst x.snd.snd.snd.fst), ()))))) := by kernel_rfl
theorem v16_eq : vcFn g16 300 Try.f16 cBack = ( ∀ (x : ((Int × Int × Int × Int × Int × Int × Int × Int × Int × Unit) × List (Int × Int × Unit) × List Int × List Int × (Int × Bool × Int × Unit) × List ((Int × (Int × Int × Int × Int × Int × Int × Int × Int × Unit) × Int
  × Unit) × Int × Unit) × Bool × Unit) × Int × Int × Bool × Int × List Int × Unit), Wr ((szB x.fst && szI x.snd.snd.snd.snd.snd.fst) = Bool.true) → Wr (Bool.true = Bool.true) ∧ bcase x.fst.snd.snd.snd.snd.snd.snd.fst (Wr
  (List.length ((x.snd.fst, (-1 : Int), (240 : Int), ()) :: nilL (Int × Int × Int × Unit)) * (24 : Nat) ≤ (140737488355328 : Nat)) ∧ Wr ((!x.fst.snd.snd.snd.snd.snd.snd.fst) = Bool.true → Bool.true = Bool.true) ∧ (x.fst,
  ((x.snd.fst, (-1 : Int), (240 : Int), ()) :: nilL (Int × Int × Int × Unit), nilL Int, !x.fst.snd.snd.snd.snd.snd.snd.fst && startsF x.fst.snd.snd.snd.snd.fst, Bool.false, ()), ()) = (outB (backD x.fst x.snd.fst
  x.snd.snd.fst x.snd.snd.snd.fst x.snd.snd.snd.snd.fst x.snd.snd.snd.snd.snd.fst), outT (backD x.fst x.snd.fst x.snd.snd.fst x.snd.snd.snd.fst x.snd.snd.snd.snd.fst x.snd.snd.snd.snd.snd.fst), ())) (bcase
  (Decidable.decide (idxN x.snd.snd.fst x.fst.snd.snd.fst < (0 : Int))) (Wr (List.length ((x.snd.fst, (-1 : Int), (80 : Int), ()) :: nilL (Int × Int × Int × Unit)) * (24 : Nat) ≤ (140737488355328 : Nat)) ∧ Wr
  ((!x.fst.snd.snd.snd.snd.snd.snd.fst) = Bool.true → Bool.true = Bool.true) ∧ (x.fst, ((x.snd.fst, (-1 : Int), (80 : Int), ()) :: nilL (Int × Int × Int × Unit), nilL Int, !x.fst.snd.snd.snd.snd.snd.snd.fst && startsF
  x.fst.snd.snd.snd.snd.fst, Bool.false, ()), ()) = (outB (backD x.fst x.snd.fst x.snd.snd.fst x.snd.snd.snd.fst x.snd.snd.snd.snd.fst x.snd.snd.snd.snd.snd.fst), outT (backD x.fst x.snd.fst x.snd.snd.fst
  x.snd.snd.snd.fst x.snd.snd.snd.snd.fst x.snd.snd.snd.snd.snd.fst), ())) (Wr (Decidable.decide (List.length x.fst.snd.snd.fst * (8 : Nat) ≤ (140737488355328 : Nat)) = Bool.true) ∧ Wr ((0 : Ty.El I64) ≤ idxN
  x.snd.snd.fst x.fst.snd.snd.fst ∧ idxN x.snd.snd.fst x.fst.snd.snd.fst ≤ IntKind.wrap IntKind.i64 (idxN x.snd.snd.fst x.fst.snd.snd.fst + (1 : Int)) ∧ IntKind.wrap IntKind.i64 (idxN x.snd.snd.fst x.fst.snd.snd.fst + (1
  : Int)) ≤ (↑(List.length x.fst.snd.snd.fst) : Int) ∧ List.length x.fst.snd.snd.fst ≤ (1000000000 : Nat)) ∧ Wr (List.length ((x.snd.fst, (-1 : Int), (0 : Int), ()) :: nilL (Int × Int × Int × Unit)) * (24 : Nat) ≤
  (140737488355328 : Nat)) ∧ bcase x.snd.snd.snd.fst (Wr (Bool.true = Bool.true) ∧ bcase (Bool.true && !hasN x.snd.snd.snd.snd.snd.fst x.snd.snd.fst) (bcase (Decidable.decide ((↑(List.length x.fst.snd.snd.snd.fst) : Int)
  > (0 : Int))) (Wr ((0 : Int) ≤ (0 : Int)) ∧ Wr ((0 : Int) < (↑(List.length x.fst.snd.snd.snd.fst) : Int)) ∧ Wr (Bool.true = Bool.true) ∧ Wr ((0 : Int) ≤ (1 : Int)) ∧ Wr ((1 : Int) ≤ (↑(List.length x.fst.snd.snd.snd.fst)
  : Int)) ∧ Wr ((↑(List.length x.fst.snd.snd.snd.fst) : Int) ≤ (↑(List.length x.fst.snd.snd.snd.fst) : Int)) ∧ Wr (Decidable.decide (List.length (List.drop (Int.toNat (1 : Int)) (List.take (Int.toNat (↑(List.length
  x.fst.snd.snd.snd.fst) : Int)) x.fst.snd.snd.snd.fst)) * (8 : Nat) ≤ (140737488355328 : Nat)) = Bool.true) ∧ Wr True ∧ Wr ((List.length (delL x.fst.snd.snd.fst (idxN x.snd.snd.fst x.fst.snd.snd.fst) (IntKind.wrap
  IntKind.i64 (idxN x.snd.snd.fst x.fst.snd.snd.fst + (1 : Int)))) + List.length (x.snd.snd.fst :: nilL Int)) * (8 : Nat) ≤ (140737488355328 : Nat)) ∧ Wr ((0 : Nat) < List.length (x.snd.snd.fst :: nilL Int)) ∧ Wr
  ((List.length ((x.snd.fst, (-1 : Int), (0 : Int), ()) :: nilL (Int × Int × Int × Unit)) + List.length ((List.getD x.fst.snd.snd.snd.fst (Int.toNat (0 : Int)) (0 : Int), x.snd.snd.fst, (0 : Int), ()) :: nilL (Int × Int ×
  Int × Unit))) * (24 : Nat) ≤ (140737488355328 : Nat)) ∧ Wr (Bool.true = Bool.true) ∧ Wr ((!x.fst.snd.snd.snd.snd.snd.snd.fst) = Bool.true → Bool.true = Bool.true) ∧ ((x.fst.fst, x.fst.snd.fst, delL x.fst.snd.snd.fst
  (idxN x.snd.snd.fst x.fst.snd.snd.fst) (IntKind.wrap IntKind.i64 (idxN x.snd.snd.fst x.fst.snd.snd.fst + (1 : Int))) ++ x.snd.snd.fst :: nilL Int, List.drop (Int.toNat (1 : Int)) (List.take (Int.toNat (↑(List.length
  x.fst.snd.snd.snd.fst) : Int)) x.fst.snd.snd.snd.fst), partF x.fst.snd.snd.snd.snd.fst (1 : Int), x.fst.snd.snd.snd.snd.snd), ((x.snd.fst, (-1 : Int), (0 : Int), ()) :: nilL (Int × Int × Int × Unit) ++ (List.getD
  x.fst.snd.snd.snd.fst (Int.toNat (0 : Int)) (0 : Int), x.snd.snd.fst, (0 : Int), ()) :: nilL (Int × Int × Int × Unit), nilL Int, !x.fst.snd.snd.snd.snd.snd.snd.fst && startsF (partF x.fst.snd.snd.snd.snd.fst (1 : Int)),
  Bool.false || partC x.fst.snd.snd.snd.snd.fst (1 : Int), ()), ()) = (outB (backD x.fst x.snd.fst x.snd.snd.fst x.snd.snd.snd.fst x.snd.snd.snd.snd.fst x.snd.snd.snd.snd.snd.fst), outT (backD x.fst x.snd.fst
  x.snd.snd.fst x.snd.snd.snd.fst x.snd.snd.snd.snd.fst x.snd.snd.snd.snd.snd.fst), ())) (bcase (Decidable.decide ((↑(List.length x.fst.snd.fst) : Int) < x.fst.fst.snd.fst)) (Wr True ∧ Wr ((List.length x.fst.snd.fst +
  List.length ((x.snd.snd.fst, x.snd.snd.snd.snd.fst, ()) :: nilL (Int × Int × Unit))) * (16 : Nat) ≤ (140737488355328 : Nat)) ∧ Wr ((0 : Nat) < List.length ((x.snd.snd.fst, x.snd.snd.snd.snd.fst, ()) :: nilL (Int × Int ×
  Unit))) ∧ Wr ((!x.fst.snd.snd.snd.snd.snd.snd.fst) = Bool.true → Bool.true = Bool.true) ∧ ((x.fst.fst, x.fst.snd.fst ++ (x.snd.snd.fst, x.snd.snd.snd.snd.fst, ()) :: nilL (Int × Int × Unit), delL x.fst.snd.snd.fst (idxN
  x.snd.snd.fst x.fst.snd.snd.fst) (IntKind.wrap IntKind.i64 (idxN x.snd.snd.fst x.fst.snd.snd.fst + (1 : Int))), x.fst.snd.snd.snd), ((x.snd.fst, (-1 : Int), (0 : Int), ()) :: nilL (Int × Int × Int × Unit), nilL Int,
  !x.fst.snd.snd.snd.snd.snd.snd.fst && startsF x.fst.snd.snd.snd.snd.fst, Bool.false, ()), ()) = (outB (backD x.fst x.snd.fst x.snd.snd.fst x.snd.snd.snd.fst x.snd.snd.snd.snd.fst x.snd.snd.snd.snd.snd.fst), outT (backD
  x.fst x.snd.fst x.snd.snd.fst x.snd.snd.snd.fst x.snd.snd.snd.snd.fst x.snd.snd.snd.snd.snd.fst), ())) (Wr (List.length (x.snd.snd.fst :: nilL Int) * (8 : Nat) ≤ (140737488355328 : Nat)) ∧ Wr
  ((!x.fst.snd.snd.snd.snd.snd.snd.fst) = Bool.true → Bool.true = Bool.true) ∧ ((x.fst.fst, x.fst.snd.fst, delL x.fst.snd.snd.fst (idxN x.snd.snd.fst x.fst.snd.snd.fst) (IntKind.wrap IntKind.i64 (idxN x.snd.snd.fst
  x.fst.snd.snd.fst + (1 : Int))), x.fst.snd.snd.snd), ((x.snd.fst, (-1 : Int), (0 : Int), ()) :: nilL (Int × Int × Int × Unit), x.snd.snd.fst :: nilL Int, !x.fst.snd.snd.snd.snd.snd.snd.fst && startsF
  x.fst.snd.snd.snd.snd.fst, Bool.false, ()), ()) = (outB (backD x.fst x.snd.fst x.snd.snd.fst x.snd.snd.snd.fst x.snd.snd.snd.snd.fst x.snd.snd.snd.snd.snd.fst), outT (backD x.fst x.snd.fst x.snd.snd.fst
  x.snd.snd.snd.fst x.snd.snd.snd.snd.fst x.snd.snd.snd.snd.snd.fst), ())))) (Wr (List.length (x.snd.snd.fst :: nilL Int) * (8 : Nat) ≤ (140737488355328 : Nat)) ∧ Wr ((!x.fst.snd.snd.snd.snd.snd.snd.fst) = Bool.true →
  Bool.true = Bool.true) ∧ ((x.fst.fst, x.fst.snd.fst, delL x.fst.snd.snd.fst (idxN x.snd.snd.fst x.fst.snd.snd.fst) (IntKind.wrap IntKind.i64 (idxN x.snd.snd.fst x.fst.snd.snd.fst + (1 : Int))), x.fst.snd.snd.snd),
  ((x.snd.fst, (-1 : Int), (0 : Int), ()) :: nilL (Int × Int × Int × Unit), x.snd.snd.fst :: nilL Int, !x.fst.snd.snd.snd.snd.snd.snd.fst && startsF x.fst.snd.snd.snd.snd.fst, Bool.false, ()), ()) = (outB (backD x.fst
  x.snd.fst x.snd.snd.fst x.snd.snd.snd.fst x.snd.snd.snd.snd.fst x.snd.snd.snd.snd.snd.fst), outT (backD x.fst x.snd.fst x.snd.snd.fst x.snd.snd.snd.fst x.snd.snd.snd.snd.fst x.snd.snd.snd.snd.snd.fst), ()))) (Wr
  (List.length (x.snd.snd.fst :: nilL Int) * (8 : Nat) ≤ (140737488355328 : Nat)) ∧ Wr ((!x.fst.snd.snd.snd.snd.snd.snd.fst) = Bool.true → Bool.true = Bool.true) ∧ ((x.fst.fst, x.fst.snd.fst, delL x.fst.snd.snd.fst (idxN
  x.snd.snd.fst x.fst.snd.snd.fst) (IntKind.wrap IntKind.i64 (idxN x.snd.snd.fst x.fst.snd.snd.fst + (1 : Int))), x.fst.snd.snd.snd), ((x.snd.fst, (-1 : Int), (0 : Int), ()) :: nilL (Int × Int × Int × Unit), x.snd.snd.fst
  :: nilL Int, !x.fst.snd.snd.snd.snd.snd.snd.fst && startsF x.fst.snd.snd.snd.snd.fst, Bool.false, ()), ()) = (outB (backD x.fst x.snd.fst x.snd.snd.fst x.snd.snd.snd.fst x.snd.snd.snd.snd.fst x.snd.snd.snd.snd.snd.fst),
  outT (backD x.fst x.snd.fst x.snd.snd.fst x.snd.snd.snd.fst x.snd.snd.snd.snd.fst x.snd.snd.snd.snd.snd.fst), ()))))) := by kernel_rfl
end Go.Proofs.Ytdkcgcgefgeooaa.Bk
set_option linter.all false
namespace Go.Proofs.Ytdkcgcgefgeooaa.Bk
open Go.RowKit Go.Shelf Go.Eng
attribute [local go_sem] Oper.semAt_some
set_option maxRecDepth 100000 in
set_option maxHeartbeats 2000000 in
theorem back_nil (n : Nat) (l Bs : Nat) (J : List Empty → World → Prop) (W : World) (base : Option Addr) (cap : Nat) (hBs : W.cell? ⟨Bs, 0, none⟩ = some (.slice base 0 cap)) (h0 : J [] W) :
    CallsIn W0 n Try.prog 87 #[.func (.yield l) #[] #[], .pointer (some ⟨Bs, 0, none⟩)] W fun e W' => (∃ v, e = .returned v) ∧ J [] W' := by
  refine callsIn_of_wp Try.func87 rfl (wide_fn _) ?_ wide_ro
  simp only [Try.ntmps87, List.size_toArray, List.length_cons, List.length_nil, Nat.reduceAdd, Nat.reduceSub, Array.replicate_succ, Array.replicate_zero, List.push_toArray, List.append_toArray, List.nil_append, List.cons_append]
  gi_wp2
  gi_loopw [3] (fun i wr => i = .int .i64 (-1) ∧ J [] wr) (fun _ _ => 0)
  case atStart => exact ⟨rfl, h0⟩
  case round =>
    obtain ⟨rfl, hJs⟩ := hrel
    gi_wp2
    go_end0
    exact ⟨⟨_, rfl⟩, hJs⟩
theorem back_stops (n : Nat) (Bs n₀ : Nat) (base : Option Addr) (cap : Nat) (w : World) (hBs : Bs < w.heap.size) (hc : w.cell? ⟨Bs, 0, none⟩ = some (.slice base 0 cap)) :
    SeqStopsK W0 n Try.prog 87 #[.pointer (some ⟨Bs, 0, none⟩)] (fun x : Empty => (nomatch x : Array Value)) (Below n₀) (fun ys => ys = []) (fun _ => True) 0 w := fun l J Jx W hW _ _ hY h0 => by
  refine (back_nil n l Bs J W base cap ((hW.cell (p := ⟨Bs, 0, none⟩) hBs).trans hc) h0).mono ?_
  rintro e W' ⟨he, hj⟩
  exact ⟨he, .inl ⟨[], rfl, hj⟩⟩
set_option maxHeartbeats 1000000 in
theorem back_in (n : Nat) (a : Option Addr) (len cap : Nat) (w : World) :
    CallsIn W0 n Try.prog 76 #[.slice a len cap] w fun e w' => e = .returned (.func (.func 87) #[] #[.pointer (some ⟨w.heap.size, 0, none⟩)]) ∧ w' = w.alloc (.cells #[.slice a len cap] 24) := by
  refine callsIn_of_wp Try.func76 rfl (wide_fn _) ?_ wide_ro
  simp only [Try.ntmps76, List.size_toArray, List.length_cons, List.length_nil, Nat.reduceAdd, Nat.reduceSub, Array.replicate_succ, Array.replicate_zero, List.push_toArray, List.append_toArray, List.nil_append, List.cons_append]
  gi_wp2
  go_ret
  exact ⟨rfl, rfl⟩
set_option maxHeartbeats 1000000 in
theorem spent_in (n : Nat) (x y : Int) (b : Option Addr) (m c : Nat) (w : World) :
    CallsIn W0 n Try.prog 75 #[.int .i64 x, .int .i64 y, .slice b m c] w fun e w' => e = .returned (.func (.func 85) #[] #[.pointer (some ⟨w.heap.size + 1 + 1, 0, none⟩), .pointer (some ⟨w.heap.size, 0, none⟩), .pointer (some ⟨w.heap.size + 1, 0, none⟩)]) ∧ w' = ((w.alloc (.cells #[.int .i64 x] 3)).alloc (.cells #[.int .i64 y] 3)).alloc (.cells #[.slice b m c] 25) := by
  refine callsIn_of_wp Try.func75 rfl (wide_fn _) ?_ wide_ro
  simp only [Try.ntmps75, List.size_toArray, List.length_cons, List.length_nil, Nat.reduceAdd, Nat.reduceSub, Array.replicate_succ, Array.replicate_zero, List.push_toArray, List.append_toArray, List.nil_append, List.cons_append]
  gi_wp2
  go_ret
  exact ⟨rfl, rfl⟩
theorem wpW_scope {n : Nat} {P : Program} {c : Code} {Q : Exit → Act → World → Prop} {a : Act} {w : World} (h : c.wpIn W0 n P (Exit.noGoto Q) a w) : (Code.scope c).wpIn W0 n P Q a w := wpIn_wide.2 (wp_scope_straight (wpIn_wide.1 h))
theorem wpQuietIn_do {F : Fence} {n : Nat} {P : Program} {ops : Array Oper} {C : World → Prop} {Q : Act → Prop} {a : Act} {o : Oper} {rest : List Oper} (hg : o.guard = none) (v : Value) (ha : o.askedIn F P a C) (h : ∀ w, C w → o.quietAtIn F n P a C w v)
    (hn : wpQuietIn F n P ops C Q rest (a.put o.dst v)) : wpQuietIn F n P ops C Q (o :: rest) a := by
  refine ⟨ha, ?_⟩
  rw [if_pos (by unfold Region.wanted; rw [hg])]
  exact ⟨v, h, hn⟩
theorem setCell_id {W : World} {b : Nat} {t : TypeId} {v : Value} (h : Boxed W b t v) : W.setCell ⟨b, 0, none⟩ v = W := by
  obtain ⟨hlt, hk⟩ := Array.getElem?_eq_some_iff.1 h
  have e : ∀ f : Obj → Obj, f W.heap[b] = W.heap[b] → W.heap.modify b f = W.heap := fun f hf => by
    apply Array.ext
    · rw [Array.size_modify]
    · intro i h1 h2
      rw [Array.getElem_modify]
      split
      · rename_i e; subst e; exact hf
      · rfl
  unfold World.setCell
  show ({ W with heap := W.heap.modify b _ } : World) = W
  rw [e]
  rw [hk]; rfl
theorem run_store_func {P : Program} {w : World} {a : Addr} {m : Mode} (g : Fn) (fs cs : Array Value) : (store a (.func g fs cs) m).run P w = stored P w a (.func g fs cs) m := run_store P w a _ m rfl
attribute [local go_sem] run_store_func
/-- what Top's boxes hold -/
structure TopW (base : Option Addr) (cap a : Nat) (v8 : Value) (w W : World) : Prop where
  b4 : Boxed W a 24 (.slice base 0 cap)
  b8 : Boxed W (a + 1) 3 v8
  b9 : Boxed W (a + 1 + 1) 24 (.slice none 0 0)
  b10 : Boxed W (a + 1 + 1 + 1) 25 (.slice none 0 0)
  b11 : Boxed W (a + 1 + 1 + 1 + 1) 4 (.bool false)
  hB : Below a w W
theorem TopW.below {base : Option Addr} {cap a : Nat} {v8 : Value} {w W W' : World} {n : Nat} (h : TopW base cap a v8 w W) (hb : Below n W W') (hn : a + 5 ≤ n) : TopW base cap a v8 w W' :=
  ⟨(hb.block _ (by omega)).trans h.b4, (hb.block _ (by omega)).trans h.b8, (hb.block _ (by omega)).trans h.b9, (hb.block _ (by omega)).trans h.b10, (hb.block _ (by omega)).trans h.b11, h.hB.trans (hb.mono (by omega))⟩
theorem TopW.set8 {base : Option Addr} {cap a : Nat} {v8 : Value} {w W : World} (v : Value) (h : TopW base cap a v8 w W) : TopW base cap a v w (W.setCell ⟨a + 1, 0, none⟩ v) :=
  ⟨h.b4.kept (grownBy_setCell' _ _ _) (by simp), h.b8.set v, h.b9.kept (grownBy_setCell' _ _ _) (by simp; try omega), h.b10.kept (grownBy_setCell' _ _ _) (by simp; try omega), h.b11.kept (grownBy_setCell' _ _ _) (by simp; try omega), h.hB.setCell (p := ⟨a + 1, 0, none⟩) (by simp) _⟩
theorem topW_new (base : Option Addr) (cap : Nat) (w : World) :
    TopW base cap w.heap.size (.int .i64 0) w (((((w.alloc (.cells #[.slice base 0 cap] 24)).alloc (.cells #[.int .i64 0] 3)).alloc (.cells #[.slice none 0 0] 24)).alloc (.cells #[.slice none 0 0] 25)).alloc (.cells #[.bool false] 4)) := by
  have b4 := Boxed.new w 24 (.slice base 0 cap)
  have b8 := Boxed.new (w.alloc (.cells #[.slice base 0 cap] 24)) 3 (.int .i64 0)
  have b9 := Boxed.new ((w.alloc (.cells #[.slice base 0 cap] 24)).alloc (.cells #[.int .i64 0] 3)) 24 (.slice none 0 0)
  have b10 := Boxed.new (((w.alloc (.cells #[.slice base 0 cap] 24)).alloc (.cells #[.int .i64 0] 3)).alloc (.cells #[.slice none 0 0] 24)) 25 (.slice none 0 0)
  have b11 := Boxed.new ((((w.alloc (.cells #[.slice base 0 cap] 24)).alloc (.cells #[.int .i64 0] 3)).alloc (.cells #[.slice none 0 0] 24)).alloc (.cells #[.slice none 0 0] 25)) 4 (.bool false)
  simp only [World.size_alloc] at b4 b8 b9 b10 b11
  exact ⟨(((b4.alloc _).alloc _).alloc _).alloc _, ((b8.alloc _).alloc _).alloc _, (b9.alloc _).alloc _, b10.alloc _, b11, (((((Below.refl _ w).alloc (Nat.le_refl _) _).alloc (by simp) _).alloc (by simp; omega) _).alloc (by simp; omega) _).alloc (by simp; omega) _⟩
theorem spent_b (n : Nat) (x y : Int) (b : Option Addr) (m c : Nat) (w : World) :
    CallsIn W0 n Try.prog 75 #[.int .i64 x, .int .i64 y, .slice b m c] w fun e w' => (∃ p q r, e = .returned (.func (.func 85) #[] #[.pointer (some p), .pointer (some q), .pointer (some r)])) ∧ Below w.heap.size w w' := by
  refine (spent_in n x y b m c w).mono ?_
  rintro e w' ⟨rfl, rfl⟩
  exact ⟨⟨_, _, _, rfl⟩, (((Below.refl _ w).alloc (Nat.le_refl _) _).alloc (by simp) _).alloc (by simp; omega) _⟩
set_option maxRecDepth 100000 in
set_option maxHeartbeats 2000000 in
theorem top_in (base : Option Addr) (cap : Nat) (x y : Int) (b : Option Addr) (m c : Nat) (w : World) :
    CallsIn W0 3 Try.prog 59 #[.slice base 0 cap, .int .i64 x, .int .i64 y, .slice b m c] w fun e W' => e = .returned (.tuple #[.int .i64 (-1), .slice none 0 0, .slice none 0 0, .bool false]) ∧ Below w.heap.size w W' := by
  have h1 : 1 ≤ 3 := by omega
  refine callsIn_of_wp_marks Try.func59 rfl (wide_fn _) ?_ wide_ro
  simp only [Try.ntmps59, List.size_toArray, List.length_cons, List.length_nil, Nat.reduceAdd, Nat.reduceSub, Array.replicate_succ, Array.replicate_zero, List.push_toArray, List.append_toArray, List.nil_append, List.cons_append]
  gi_wp2
  have hT := topW_new base cap w
  have hz : w.heap.size + 5 ≤ (((((w.alloc (.cells #[.slice base 0 cap] 24)).alloc (.cells #[.int .i64 0] 3)).alloc (.cells #[.slice none 0 0] 24)).alloc (.cells #[.slice none 0 0] 25)).alloc (.cells #[.bool false] 4)).heap.size := by simp
  generalize (((((w.alloc (.cells #[.slice base 0 cap] 24)).alloc (.cells #[.int .i64 0] 3)).alloc (.cells #[.slice none 0 0] 24)).alloc (.cells #[.slice none 0 0] 25)).alloc (.cells #[.bool false] 4)) = W1 at hT hz ⊢
  refine wpW_scope ?_
  refine wpIn_seq (wpIn_mono (Q := fun e a W => e = .normal ∧ (∃ u v, a = { tmps := #[.slice base 0 cap, .int .i64 x, .int .i64 y, .slice b m c, .pointer (some ⟨w.heap.size, 0, none⟩), undef, undef, undef, .pointer (some ⟨w.heap.size + 1, 0, none⟩), .pointer (some ⟨w.heap.size + 1 + 1, 0, none⟩), .pointer (some ⟨w.heap.size + 1 + 1 + 1, 0, none⟩), .pointer (some ⟨w.heap.size + 1 + 1 + 1 + 1, 0, none⟩), u, undef, undef, .int .i64 x, .int .i64 y, .slice b m c, v, undef, undef, undef, undef, undef, undef, undef, undef, undef, undef, undef, undef, undef, undef, undef, undef, undef, undef, undef, undef, undef, undef, undef], defers := [] }) ∧ TopW base cap w.heap.size (.int .i64 0) w W ∧ w.heap.size + 5 ≤ W.heap.size) ?_ ?_)
  · gi_wp2_with (refine ⟨wide_fn _, ?_⟩; gi_at_call 75; refine (spent_b _ _ _ _ _ _ _).mono ?_; rintro e w2 ⟨⟨p, q, r, rfl⟩, hb⟩)
    have hb2 := hb.size
    exact ⟨hT.below (hb.alloc hb2 _) hz, by show _ ≤ _; omega⟩
  rintro e a W2 ⟨rfl, ⟨u, v, rfl⟩, hT2, hz2⟩
  have c8 := hT2.b8.cell
  have f8 := hT2.b8.frozen
  show Code.wpIn W0 3 Try.prog _ _ _ _
  refine wpIn_seq (wpIn_mono (Q := fun e a W => e = .normal ∧ a = { tmps := #[.slice base 0 cap, .int .i64 x, .int .i64 y, .slice b m c, .pointer (some ⟨w.heap.size, 0, none⟩), undef, undef, undef, .pointer (some ⟨w.heap.size + 1, 0, none⟩), .pointer (some ⟨w.heap.size + 1 + 1, 0, none⟩), .pointer (some ⟨w.heap.size + 1 + 1 + 1, 0, none⟩), .pointer (some ⟨w.heap.size + 1 + 1 + 1 + 1, 0, none⟩), u, undef, undef, .int .i64 x, .int .i64 y, .slice b m c, v, undef, undef, undef, undef, undef, undef, undef, undef, undef, undef, undef, undef, undef, undef, undef, undef, undef, undef, undef, undef, undef, undef, undef], defers := [] } ∧ TopW base cap w.heap.size (.int .i64 (-1)) w W ∧ w.heap.size + 5 ≤ W.heap.size) ?_ ?_)
  · gi_wp2
    exact hT2.set8 _
  rintro e a W3 ⟨rfl, rfl, hT3, hz3⟩
  show Code.wpIn W0 3 Try.prog _ _ _ _
  refine wpIn_seq (wpIn_label ?_)
  show Code.wpIn W0 3 Try.prog _ _ _ _
  have c4 := hT3.b4.cell
  gi_wp2_with (refine ⟨wide_fn _, ?_⟩; gi_at_call 76; refine (back_in _ _ _ _ _).mono ?_; rintro e w4 ⟨rfl, rfl⟩)
  have hT4 : TopW base cap w.heap.size (.int .i64 (-1)) w (W3.alloc (.cells #[.slice base 0 cap] 24)) := hT3.below ((Below.refl W3.heap.size W3).alloc (Nat.le_refl _) _) hz3
  have hn : w.heap.size + 5 ≤ (W3.alloc (.cells #[.slice base 0 cap] 24)).heap.size := by simp; omega
  refine wpIn_rangeFunc_ownG (F := W0) (n := 3) (P := Try.prog) wide_ro h1 (gf := 87) (lb := #[.pointer (some ⟨W3.heap.size, 0, none⟩)]) rfl (wide_fn _) (enters_of Try.func87 (by kernel_rfl) rfl)
    (back_stops 2 W3.heap.size w.heap.size base cap _ (by simp) (Boxed.new W3 24 _).cell)
    belowK_t (belowK_b (by omega)) (Below.refl _ _) (fun x => nomatch x)
    (fun _ W => TopW base cap w.heap.size (.int .i64 (-1)) w W)
    (fun _ _ _ => False)
    (fun s A B row hs hg hr => ⟨hs.b4.kept hg (fun e => by have := (hr _ e.symm).1; omega), hs.b8.kept hg (fun e => by have := (hr _ e.symm).1; omega), hs.b9.kept hg (fun e => by have := (hr _ e.symm).1; omega), hs.b10.kept hg (fun e => by have := (hr _ e.symm).1; omega), hs.b11.kept hg (fun e => by have := (hr _ e.symm).1; omega), hs.hB.grown hg hs.hB.size (fun k e => by have := (hr k e).1; omega)⟩)
    (fun _ _ _ _ _ hs _ _ => hs)
    hT4
    (fun x => nomatch x) ?assign ?body ?done ?stop
  case assign => intro y x; exact nomatch x
  case body => rintro y pre x; exact nomatch x
  case stop =>
    rintro D c pre W _ _ h _
    exact h.elim
  case done =>
    rintro D ys W hD rfl hT5 hK
    rename_i K hKa
    refine hKa _ _ ?_
    clear hKa
    refine wpIn_seq (wpIn_region_quiet (C := fun W' => TopW base cap w.heap.size (.int .i64 (-1)) w W' ∧ W'.heap[D]? = some (.deferred (some []))) wide_ro (by kernel_rfl) (by kernel_rfl) ?_ ?_)
    · exact ⟨hT5.below (n := W.heap.size) ⟨rfl, rfl, rfl, Nat.le_refl _, fun _ _ => rfl⟩ (by have := hT5.b11.lt; omega), hK⟩
    clear hT5 hK
    refine wpQuietIn_do rfl (.int .i64 (-1)) (by quiet_asked_in) (fun w' hw' => ?_) ?_
    · have c0 := hw'.1.b8.cell
      have f0 := hw'.1.b8.frozen
      go_simp
    refine wpQuietIn_do rfl (.slice none 0 0) (by quiet_asked_in) (fun w' hw' => ?_) ?_
    · have c0 := hw'.1.b9.cell
      have f0 := hw'.1.b9.frozen
      go_simp
    refine wpQuietIn_do rfl (.slice none 0 0) (by quiet_asked_in) (fun w' hw' => ?_) ?_
    · have c0 := hw'.1.b10.cell
      have f0 := hw'.1.b10.frozen
      go_simp
    refine wpQuietIn_do rfl (.bool false) (by quiet_asked_in) (fun w' hw' => ?_) ?_
    · have c0 := hw'.1.b11.cell
      have f0 := hw'.1.b11.frozen
      go_simp
    refine wpQuietIn_do rfl (undef) (by quiet_asked_in) (fun w' hw' => ?_) ?_
    · have c0 := hw'.1.b8.cell
      have f0 := hw'.1.b8.frozen
      have e0 := setCell_id hw'.1.b8
      go_simp
      try exact e0
    refine wpQuietIn_do rfl (undef) (by quiet_asked_in) (fun w' hw' => ?_) ?_
    · have c0 := hw'.1.b9.cell
      have f0 := hw'.1.b9.frozen
      have e0 := setCell_id hw'.1.b9
      go_simp
      try exact e0
    refine wpQuietIn_do rfl (undef) (by quiet_asked_in) (fun w' hw' => ?_) ?_
    · have c0 := hw'.1.b10.cell
      have f0 := hw'.1.b10.frozen
      have e0 := setCell_id hw'.1.b10
      go_simp
      try exact e0
    refine wpQuietIn_do rfl (undef) (by quiet_asked_in) (fun w' hw' => ?_) ?_
    · have c0 := hw'.1.b11.cell
      have f0 := hw'.1.b11.frozen
      have e0 := setCell_id hw'.1.b11
      go_simp
      try exact e0
    refine wpQuietIn_nil ?_
    rintro W6 ⟨hT6, hK6⟩
    show Code.wpIn W0 3 Try.prog _ _ _ _
    refine wpIn_ret ?_
    have hne : ∀ k, k < w.heap.size + 5 → some k ≠ some D := fun k hk e => by cases e; omega
    have hg6 := grownBy_putObj' W6 D (.deferred none)
    have b8 := (hT6.b8.kept hg6 (hne _ (by omega))).cell
    have b9 := (hT6.b9.kept hg6 (hne _ (by omega))).cell
    have b10 := (hT6.b10.kept hg6 (hne _ (by omega))).cell
    have b11 := (hT6.b11.kept hg6 (hne _ (by omega))).cell
    show bodyPostM W0 3 Try.prog Try.f59 _ Exit.ret _ W6
    refine ⟨by simp, .inl ⟨_, _, rfl, run_takeDeferred hK6, ?_⟩⟩
    refine ⟨.tuple #[.int .i64 (-1), .slice none 0 0, .slice none 0 0, .bool false], ?_, rfl, hT6.hB.trans (belowK_b (w := w) (Nat.le_refl _) W6 D _ _ (by omega) hK6 rfl rfl)⟩
    simp [results, Try.f59, Act.put, go_sem, b8, b9, b10, b11]
theorem val59 : Valid Try.prog GW 59 cTop := by
  refine ⟨⟨Try.f59, Try.func59, by kernel_rfl, rfl⟩, fun w _ S x cs hS hx hpre => ?_⟩
  obtain ⟨l, lo, no, dead, ⟨⟩⟩ := x
  obtain ⟨c1, c2, rfl, h1, c3, c4, rfl, ⟨rfl, _⟩, c5, c6, rfl, ⟨rfl, _⟩, c7, c8, rfl, h2, rfl⟩ := hx
  obtain ⟨base, cap, rfl, _⟩ := h1
  obtain ⟨b, c, rfl, _⟩ := h2
  have hl : l = ([] : List Rs) := List.length_eq_zero_iff.1 (of_decide_eq_true hpre)
  subst hl
  refine Calls.mono (callsIn_wide.1 (top_in base cap lo no b _ c w)) ?_
  rintro e w' ⟨rfl, hb⟩
  refine ⟨hb, [.int .i64 (-1), .slice none 0 0, .slice none 0 0, .bool false], rfl, ⟨[_], [_, _, _], rfl, ⟨rfl, show IntKind.wrap .i64 (-1) = -1 by decide⟩, [_], [_, _], rfl, ⟨none, 0, rfl, Nat.le_refl 0, by decide, fun h => absurd rfl h⟩, [_], [_], rfl, ⟨none, 0, rfl, Nat.le_refl 0, by decide, fun h => absurd rfl h⟩, [_], [], rfl, rfl, rfl⟩, fun h => by cases h⟩
end Go.Proofs.Ytdkcgcgefgeooaa.Bk
set_option linter.all false
namespace Go.Proofs.Ytdkcgcgefgeooaa.Bk
open Go Go.Eng Go.RowKit
set_option maxRecDepth 100000
set_option maxHeartbeats 8000000
theorem v40 : Vc g40 300 Try.f40 cNone := by
  constructor
  rw [v40_eq]
  simp only [Wr_iff, bcase_iff, true_and, and_true, decide_eq_true_eq, decide_eq_false_iff_not, Bool.and_eq_true, Bool.and_eq_false_iff, Bool.or_eq_true, Bool.or_eq_false_iff, Bool.not_eq_true', Bool.not_eq_false', Option.map_some, Option.getD_some, Option.isSome_some, Option.isSome_map, imp_self, nilL, noneO]
  intro x
  first | exact trivial | exact fun _ => rfl
theorem v19 : Vc g19 300 Try.f19 cNew := by
  constructor
  rw [v19_eq]
  simp only [Wr_iff, bcase_iff, true_and, and_true, decide_eq_true_eq, decide_eq_false_iff_not, Bool.and_eq_true, Bool.and_eq_false_iff, Bool.or_eq_true, Bool.or_eq_false_iff, Bool.not_eq_true', Bool.not_eq_false', Option.map_some, Option.getD_some, Option.isSome_some, Option.isSome_map, imp_self, nilL, noneO]
  intro x
  first | exact trivial | exact fun _ => rfl
theorem v18 : Vc g18 300 Try.f18 cOver := by
  constructor
  rw [v18_eq]
  simp only [Wr_iff, bcase_iff, true_and, and_true, decide_eq_true_eq, decide_eq_false_iff_not, Bool.and_eq_true, Bool.and_eq_false_iff, Bool.or_eq_true, Bool.or_eq_false_iff, Bool.not_eq_true', Bool.not_eq_false', Option.map_some, Option.getD_some, Option.isSome_some, Option.isSome_map, imp_self, nilL, noneO]
  intro x
  first | exact trivial | exact fun _ => rfl | exact fun _ _ => trivial | exact fun _ => ⟨fun _ => trivial, rfl⟩
theorem v61 : Vc g61 300 Try.f61 (cClip I64) := by
  constructor
  rw [v61_eq]
  simp only [Wr_iff, bcase_iff, true_and, and_true, decide_eq_true_eq, decide_eq_false_iff_not, Bool.and_eq_true, Bool.and_eq_false_iff, Bool.or_eq_true, Bool.or_eq_false_iff, Bool.not_eq_true', Bool.not_eq_false', Option.map_some, Option.getD_some, Option.isSome_some, Option.isSome_map, imp_self, nilL, noneO]
  rintro ⟨l, ⟨⟩⟩ _
  refine ⟨by omega, by simp, by omega, ?_⟩
  simp
theorem v79 : Vc g79 300 Try.f79 (cClip RestT) := by
  constructor
  rw [v79_eq]
  simp only [Wr_iff, bcase_iff, true_and, and_true, decide_eq_true_eq, decide_eq_false_iff_not, Bool.and_eq_true, Bool.and_eq_false_iff, Bool.or_eq_true, Bool.or_eq_false_iff, Bool.not_eq_true', Bool.not_eq_false', Option.map_some, Option.getD_some, Option.isSome_some, Option.isSome_map, imp_self, nilL, noneO]
  rintro ⟨l, ⟨⟩⟩ _
  refine ⟨by omega, by simp, by omega, ?_⟩
  simp
theorem v80 : Vc g80 300 Try.f80 (cClone 100 40 ScT) := by
  constructor
  rw [v80_eq]
  simp only [Wr_iff, bcase_iff, true_and, and_true, decide_eq_true_eq, decide_eq_false_iff_not, Bool.and_eq_true, Bool.and_eq_false_iff, Bool.or_eq_true, Bool.or_eq_false_iff, Bool.not_eq_true', Bool.not_eq_false', Option.map_some, Option.getD_some, Option.isSome_some, Option.isSome_map, imp_self, nilL, noneO]
  rintro ⟨l, ⟨⟩⟩ h b hb
  dsimp only at *
  exact ⟨hb, fun _ => ⟨by simpa using h, by simp⟩⟩
theorem v78 : Vc g78 300 Try.f78 cHas := by
  constructor
  rw [v78_eq]
  simp only [Wr_iff, bcase_iff, true_and, and_true, decide_eq_true_eq, decide_eq_false_iff_not, Bool.and_eq_true, Bool.and_eq_false_iff, Bool.or_eq_true, Bool.or_eq_false_iff, Bool.not_eq_true', Bool.not_eq_false', Option.map_some, Option.getD_some, Option.isSome_some, Option.isSome_map, imp_self, nilL, noneO]
  rintro ⟨l, x, ⟨⟩⟩ _
  dsimp only
  rw [hasN, idxN]
  cases l.any (fun y => decide (y = x)) with
  | true => rw [cond_true, decide_eq_true (by omega)]
  | false => rw [cond_false]; rfl
theorem v26 : Vc g26 300 Try.f26 cStarted := by
  constructor
  rw [v26_eq]
  simp only [Wr_iff, bcase_iff, true_and, and_true, decide_eq_true_eq, decide_eq_false_iff_not, Bool.and_eq_true, Bool.and_eq_false_iff, Bool.or_eq_true, Bool.or_eq_false_iff, Bool.not_eq_true', Bool.not_eq_false', Option.map_some, Option.getD_some, Option.isSome_some, Option.isSome_map, imp_self, nilL, noneO]
  rintro ⟨b, r, ⟨⟩⟩ _
  dsimp only
  rw [startB]
  refine ⟨fun h => ?_, fun h => ?_⟩
  · rw [decide_eq_true h]; rfl
  · rw [decide_eq_false h]; rfl
theorem v66 : Vc g66 300 Try.f66 cNote := by
  constructor
  rw [v66_eq]
  simp only [Wr_iff, bcase_iff, true_and, and_true, decide_eq_true_eq, decide_eq_false_iff_not, Bool.and_eq_true, Bool.and_eq_false_iff, Bool.or_eq_true, Bool.or_eq_false_iff, Bool.not_eq_true', Bool.not_eq_false', Option.map_some, Option.getD_some, Option.isSome_some, Option.isSome_map, imp_self, nilL, noneO]
  rintro ⟨l, n, bad, ⟨⟩⟩ ⟨h1, h2⟩
  dsimp only at *
  refine ⟨by omega, fun k hk => ⟨fun hl => absurd hl (by omega), fun _ => ?_⟩⟩
  have e : IntKind.wrap .i64 ((l.length : Int) - 32) = (l.length : Int) - 32 := wrap_id (by omega) (by omega)
  rw [e]
  refine ⟨by omega, by omega, Int.le_refl _, ?_⟩
  have e2 : (max 0 ((l.length : Int) - 32)).toNat = l.length - 32 := by omega
  rw [e2, noteS, Int.toNat_natCast, List.take_length]
theorem top_nil {lo now : Int} {dead : List Int} {l : List Rs} (h : nilR l = true) : topO lo now dead l = [] ∧ topK lo now dead l = false ∧ topR lo now dead l = [] := by
  obtain rfl : l = [] := List.length_eq_zero_iff.1 (of_decide_eq_true h)
  exact ⟨rfl, rfl, rfl⟩
theorem v15 : Vc g15 300 Try.f15 cAsk := by
  constructor
  rw [v15_eq]
  simp only [Wr_iff, bcase_iff, true_and, and_true, decide_eq_true_eq, decide_eq_false_iff_not, Bool.and_eq_true, Bool.and_eq_false_iff, Bool.or_eq_true, Bool.or_eq_false_iff, Bool.not_eq_true', Bool.not_eq_false', Option.map_some, Option.getD_some, Option.isSome_some, Option.isSome_map, imp_self, nilL, noneO]
  rintro ⟨b, c, now, dead, ⟨⟩⟩ hb
  dsimp only at *
  simp only [askOk, Bool.and_eq_true] at hb
  obtain ⟨hs, hd, hn⟩ := hb
  rw [szB_iff] at hs
  obtain ⟨t1, t2, t3⟩ := top_nil (lo := b.1.2.2.2.2.2.1) (now := now) (dead := dead) hn
  refine ⟨fun h => ⟨by simp, fun _ => trivial, ?_⟩, fun h => ⟨hn, by rw [t1]; simp, fun h2 => absurd (t2.symm.trans h2) (by decide), fun h2 => ⟨fun h3 => ⟨by simp, fun _ => trivial, ?_⟩, fun h3 => ⟨by simp; omega, by simp, ⟨by omega, by simp⟩, fun _ => trivial, ?_⟩⟩⟩⟩
  · have e : askD b c now dead = (b, [(c, -1, 240, ())], [], false) := by rw [askD, h]; rfl
    rw [e]; rfl
  · have e : askD b c now dead = (mkB b.1 (topR b.1.2.2.2.2.2.1 now dead b.2.1) b.2.2.1 b.2.2.2.1 b.2.2.2.2.1 b.2.2.2.2.2.1 b.2.2.2.2.2.2.1, [(c, -1, 230, ())], topO b.1.2.2.2.2.2.1 now dead b.2.1, false) := by rw [askD, h, h2, decide_eq_true (show b.1.2.2.1 ≤ (b.2.2.2.1.length : Int) from h3)]; rfl
    rw [e]; rfl
  · have e : askD b c now dead = (mkB b.1 (topR b.1.2.2.2.2.2.1 now dead b.2.1) b.2.2.1 (b.2.2.2.1 ++ [c]) (joinF b.2.2.2.2.1) b.2.2.2.2.2.1 b.2.2.2.2.2.2.1, [], topO b.1.2.2.2.2.2.1 now dead b.2.1, false) := by rw [askD, h, h2, decide_eq_false (show ¬ b.1.2.2.1 ≤ (b.2.2.2.1.length : Int) from h3)]; rfl
    rw [e]; rfl
theorem fileW {cf : Cf} {id : List Rs} {le : List Int} {w : Int} {ws : List Int} {fl : Fl} {sc : List Sc} {cl : Bool} {re : List Rp} {sh : List Int} {sock now : Int} :
    fileD (mkB cf id le (w :: ws) fl sc cl) re sh sock now = (mkB cf id (le ++ [sock]) ws (partF fl 1) sc cl, re ++ [(w, sock, 0, ())], sh, partC fl 1) := rfl
theorem fileI {cf : Cf} {id : List Rs} {le : List Int} {fl : Fl} {sc : List Sc} {cl : Bool} {re : List Rp} {sh : List Int} {sock now : Int} (h : (id.length : Int) < cf.2.1) :
    fileD (mkB cf id le [] fl sc cl) re sh sock now = (mkB cf (id ++ [(sock, now, ())]) le [] fl sc cl, re, sh, false) := by
  rw [fileD]; dsimp only; rw [decide_eq_true h]; rfl
theorem fileS {cf : Cf} {id : List Rs} {le : List Int} {fl : Fl} {sc : List Sc} {cl : Bool} {re : List Rp} {sh : List Int} {sock now : Int} (h : ¬ (id.length : Int) < cf.2.1) :
    fileD (mkB cf id le [] fl sc cl) re sh sock now = (mkB cf id le [] fl sc cl, re, sh ++ [sock], false) := by
  rw [fileD]; dsimp only; rw [decide_eq_false h]; rfl
theorem v16 : Vc g16 300 Try.f16 cBack := by
  constructor
  rw [v16_eq]
  simp only [Wr_iff, bcase_iff, true_and, and_true, decide_eq_true_eq, decide_eq_false_iff_not, Bool.and_eq_true, Bool.and_eq_false_iff, Bool.or_eq_true, Bool.or_eq_false_iff, Bool.not_eq_true', Bool.not_eq_false', Option.map_some, Option.getD_some, Option.isSome_some, Option.isSome_map, imp_self, nilL, noneO]
  rintro ⟨⟨cf, id, le, wa, fl, sc, cl, ⟨⟩⟩, c, sock, keep, now, dead, ⟨⟩⟩ hb
  dsimp only at *
  obtain ⟨hs, hd⟩ := hb
  rw [szB_iff] at hs
  dsimp only at hs
  simp only [szI, decide_eq_true_eq] at hd
  have hi := idx_cases sock le
  refine ⟨fun h => ⟨by simp, fun _ => trivial, ?_⟩, fun h => ⟨fun h2 => ⟨by simp, fun _ => trivial, ?_⟩, fun h2 => ?_⟩⟩
  · subst h
    have e : backD (cf, id, le, wa, fl, sc, true, ()) c sock keep now dead = ((cf, id, le, wa, fl, sc, true, ()), [(c, -1, 240, ())], [], false) := rfl
    rw [e]; rfl
  · subst h
    have e : backD (cf, id, le, wa, fl, sc, false, ()) c sock keep now dead = ((cf, id, le, wa, fl, sc, false, ()), [(c, -1, 80, ())], [], false) := by rw [backD]; dsimp only; rw [decide_eq_true h2]; rfl
    rw [e]; rfl
  subst h
  have ew : IntKind.wrap .i64 (idxN sock le + 1) = idxN sock le + 1 := wrap_id (by omega) (by omega)
  rw [ew]
  have hdl : (delL le (idxN sock le) (idxN sock le + 1)).length ≤ le.length := by
    rw [delL, List.length_append, List.length_take, List.length_drop]; omega
  have e0 : backD (cf, id, le, wa, fl, sc, false, ()) c sock keep now dead = bif keep && !hasN dead sock then fileD (mkB cf id (delL le (idxN sock le) (idxN sock le + 1)) wa fl sc false) [(c, -1, 0, ())] [] sock now else
        (mkB cf id (delL le (idxN sock le) (idxN sock le + 1)) wa fl sc false, [(c, -1, 0, ())], [sock], false) := by rw [backD]; dsimp only; rw [decide_eq_false h2]; rfl
  rw [e0]
  generalize delL le (idxN sock le) (idxN sock le + 1) = le' at *
  refine ⟨by omega, ⟨by show (0 : Int) ≤ _; omega, by omega, by omega, by omega⟩, by simp, fun hk => ⟨fun hh => ⟨fun hw => ?_, fun hw => ⟨fun hc => ⟨by simp; omega, by simp, fun _ => trivial, ?_⟩, fun hc => ⟨by simp, fun _ => trivial, ?_⟩⟩⟩, fun hh => ⟨by simp, fun _ => trivial, ?_⟩⟩, fun hk => ⟨by simp, fun _ => trivial, ?_⟩⟩
  · subst hk
    rw [hh]
    cases wa with
    | nil => exact absurd hw (by simp)
    | cons w ws =>
      simp only [List.length_cons] at hs hw ⊢
      refine ⟨by omega, by omega, by omega, by omega, by omega, by simp; omega, by simp; omega, by simp, by simp, fun _ => trivial, ?_⟩
      rw [show (bif true && !false then fileD (mkB cf id le' (w :: ws) fl sc false) [(c, -1, 0, ())] [] sock now else (mkB cf id le' (w :: ws) fl sc false, [(c, -1, 0, ())], [sock], false)) = fileD (mkB cf id le' (w :: ws) fl sc false) [(c, -1, 0, ())] [] sock now from rfl, fileW]
      simp [outB, outT, endsB, mkB]
  · subst hk
    rw [hh]
    have hw0 : wa = [] := List.length_eq_zero_iff.1 (by omega)
    subst hw0
    rw [show (bif true && !false then fileD (mkB cf id le' [] fl sc false) [(c, -1, 0, ())] [] sock now else (mkB cf id le' [] fl sc false, [(c, -1, 0, ())], [sock], false)) = fileD (mkB cf id le' [] fl sc false) [(c, -1, 0, ())] [] sock now from rfl, fileI hc]
    rfl
  · subst hk
    rw [hh]
    have hw0 : wa = [] := List.length_eq_zero_iff.1 (by omega)
    subst hw0
    rw [show (bif true && !false then fileD (mkB cf id le' [] fl sc false) [(c, -1, 0, ())] [] sock now else (mkB cf id le' [] fl sc false, [(c, -1, 0, ())], [sock], false)) = fileD (mkB cf id le' [] fl sc false) [(c, -1, 0, ())] [] sock now from rfl, fileS hc]
    rfl
  · have hh2 : hasN dead sock = true := hh.resolve_left (by decide)
    rw [hh2, Bool.not_true, Bool.and_false]; rfl
  · rw [hk, Bool.false_and]; rfl
end Go.Proofs.Ytdkcgcgefgeooaa.Bk
namespace Go.Proofs.Ytdkcgcgefgeooaa.Bk
open Go Go.Eng 
set_option maxRecDepth 100000
theorem val61 : Valid Try.prog GW 61 ((cClip I64)) := mkValid gws Tb.mix Tb.tab_ok Tb.eqs_ok g61 rfl allV_nil allI_nil Try.func61 (by kernel_rfl) v61
theorem val79 : Valid Try.prog GW 79 ((cClip RestT)) := mkValid gws Tb.mix Tb.tab_ok Tb.eqs_ok g79 rfl allV_nil allI_nil Try.func79 (by kernel_rfl) v79
theorem val80 : Valid Try.prog GW 80 ((cClone 100 40 ScT)) := mkValid gws Tb.mix Tb.tab_ok Tb.eqs_ok g80 rfl allV_nil allI_nil Try.func80 (by kernel_rfl) v80
theorem val78 : Valid Try.prog GW 78 cHas := mkValid gws Tb.mix Tb.tab_ok Tb.eqs_ok g78 rfl (allV_cons val46 allV_nil) allI_nil Try.func78 (by kernel_rfl) v78
theorem val66 : Valid Try.prog GW 66 cNote := mkValid gws Tb.mix Tb.tab_ok Tb.eqs_ok g66 rfl (allV_cons val80 allV_nil) allI_nil Try.func66 (by kernel_rfl) v66
theorem val40 : Valid Try.prog GW 40 cNone := mkValid gws Tb.mix Tb.tab_ok Tb.eqs_ok g40 rfl allV_nil allI_nil Try.func40 (by kernel_rfl) v40
theorem val19 : Valid Try.prog GW 19 cNew := mkValid gws Tb.mix Tb.tab_ok Tb.eqs_ok g19 rfl (allV_cons val40 allV_nil) allI_nil Try.func19 (by kernel_rfl) v19
theorem val18 : Valid Try.prog GW 18 cOver := mkValid gws Tb.mix Tb.tab_ok Tb.eqs_ok g18 rfl (allV_cons val39 allV_nil) allI_nil Try.func18 (by kernel_rfl) v18
theorem val26 : Valid Try.prog GW 26 cStarted := mkValid gws Tb.mix Tb.tab_ok Tb.eqs_ok g26 rfl (allV_cons val44 allV_nil) allI_nil Try.func26 (by kernel_rfl) v26
theorem val15 : Valid Try.prog GW 15 cAsk := mkValid gws Tb.mix Tb.tab_ok Tb.eqs_ok g15 rfl (allV_cons val59 (allV_cons val61 (allV_cons val62 (allV_cons val70 allV_nil)))) (allI_cons Try.func27 (by kernel_rfl) (allI_cons Try.func29 (by kernel_rfl) (allI_cons Try.func36 (by kernel_rfl) (allI_cons Try.func45 (by kernel_rfl) (allI_cons Try.func49 (by kernel_rfl) (allI_cons Try.func50 (by kernel_rfl) (allI_cons Try.func57 (by kernel_rfl) (allI_cons Try.func58 (by kernel_rfl) (allI_cons Try.func60 (by kernel_rfl) allI_nil))))))))) Try.func15 (by kernel_rfl) v15
theorem val16 : Valid Try.prog GW 16 cBack := mkValidM gws Tb.mix Tb.tab_ok Tb.eqs_ok (by kernel_rfl) g16 rfl (allM_cons mval47 allM_nil) (allV_cons val46 (allV_cons val48 (allV_cons val61 (allV_cons val70 (allV_cons val71 (allV_cons val78 (allV_cons val79 allV_nil))))))) (allI_cons Try.func27 (by kernel_rfl) (allI_cons Try.func29 (by kernel_rfl) (allI_cons Try.func37 (by kernel_rfl) (allI_cons Try.func45 (by kernel_rfl) (allI_cons Try.func49 (by kernel_rfl) (allI_cons Try.func50 (by kernel_rfl) (allI_cons Try.func57 (by kernel_rfl) (allI_cons Try.func58 (by kernel_rfl) (allI_cons Try.func60 (by kernel_rfl) (allI_cons Try.func63 (by kernel_rfl) (allI_cons Try.func64 (by kernel_rfl) allI_nil))))))))))) Try.func16 (by kernel_rfl) v16
end Go.Proofs.Ytdkcgcgefgeooaa.Bk
namespace Go.Proofs.Ytdkcgcgefgeooaa.Bk
open Go Go.Eng 
set_option maxRecDepth 100000
noncomputable def g17 : Cfg := { tab := Tb.tab, cons := [(48, (cClone 3 8 I64)), (61, (cClip I64)), (65, cEnd), (66, cNote), (70, cStarts), (71, cPart), (78, cHas), (79, (cClip RestT))], inls := [(27, Try.f27), (29, Try.f29), (38, Try.f38), (45, Try.f45), (49, Try.f49), (50, Try.f50), (56, Try.f56), (57, Try.f57), (58, Try.f58), (60, Try.f60), (63, Try.f63), (64, Try.f64)], loops := [(570001, alA)], cuts := [], unroll := false, arrs := [], keys := [] }
noncomputable def g14 : Cfg := { tab := Tb.tab, cons := [(13, cOwns), (70, cStarts), (71, cPart)], inls := [(27, Try.f27), (29, Try.f29), (35, Try.f35), (45, Try.f45), (49, Try.f49), (50, Try.f50), (56, Try.f56), (57, Try.f57), (58, Try.f58)], loops := [(570001, alA)], cuts := [], unroll := false, arrs := [], keys := [] }
end Go.Proofs.Ytdkcgcgefgeooaa.Bk
namespace Go.Proofs.Ytdkcgcgefgeooaa.Bk
open Go Go.Eng 
set_option maxRecDepth 100000
theorem v17_eq : vcFn g17 300 Try.f17 cTold = ( ∀ (x : ((Int × Int × Int × Int × Int × Int × Int × Int × Int × Unit) × List (Int × Int × Unit) × List Int × List Int × (Int × Bool × Int × Unit) × List ((Int × (Int × Int × Int × Int × Int × Int × Int × Int × Unit) × Int
  × Unit) × Int × Unit) × Bool × Unit) × Int × Int × List (Int × (Int × Int × Int × Int × Int × Int × Int × Int × Unit) × Int × Unit) × Int × List Int × Unit), Wr ((szB x.fst && szI x.snd.snd.snd.snd.snd.fst &&
  Decidable.decide (List.length x.snd.snd.snd.fst = (0 : Nat))) = Bool.true) → Wr (Bool.true = Bool.true) ∧ Wr ((Decidable.decide (List.length x.fst.snd.snd.snd.snd.snd.fst ≤ (1000000 : Nat)) && Decidable.decide
  (List.length x.snd.snd.snd.fst = (0 : Nat))) = Bool.true) ∧ bcase (Decidable.decide (x.snd.snd.fst = (0 : Int))) (bcase (!x.fst.snd.snd.snd.snd.snd.snd.fst) (Wr (Bool.true = Bool.true) ∧ bcase (Bool.true && (Bool.false
  || hasN x.snd.snd.snd.snd.snd.fst x.snd.fst)) (Wr (List.length (x.snd.fst :: nilL Int) * (8 : Nat) ≤ (140737488355328 : Nat)) ∧ Wr ((!x.fst.snd.snd.snd.snd.snd.snd.fst) = Bool.true → Bool.true = Bool.true) ∧
  ((x.fst.fst, x.fst.snd.fst, x.fst.snd.snd.fst, x.fst.snd.snd.snd.fst, endF x.fst.snd.snd.snd.snd.fst, noteS x.fst.snd.snd.snd.snd.snd.fst, x.fst.snd.snd.snd.snd.snd.snd), (nilL (Int × Int × Int × Unit), x.snd.fst ::
  nilL Int, !x.fst.snd.snd.snd.snd.snd.snd.fst && startsF (endF x.fst.snd.snd.snd.snd.fst), Bool.false, ()), ()) = (outB (toldD x.fst x.snd.fst x.snd.snd.fst x.snd.snd.snd.snd.fst x.snd.snd.snd.snd.snd.fst), outT (toldD
  x.fst x.snd.fst x.snd.snd.fst x.snd.snd.snd.snd.fst x.snd.snd.snd.snd.snd.fst), ())) (bcase (Decidable.decide (x.snd.snd.fst = (0 : Int))) (bcase (Decidable.decide ((↑(List.length x.fst.snd.snd.snd.fst) : Int) > (0 :
  Int))) (Wr ((0 : Int) ≤ (0 : Int)) ∧ Wr ((0 : Int) < (↑(List.length x.fst.snd.snd.snd.fst) : Int)) ∧ Wr (Bool.true = Bool.true) ∧ Wr ((0 : Int) ≤ (1 : Int)) ∧ Wr ((1 : Int) ≤ (↑(List.length x.fst.snd.snd.snd.fst) :
  Int)) ∧ Wr ((↑(List.length x.fst.snd.snd.snd.fst) : Int) ≤ (↑(List.length x.fst.snd.snd.snd.fst) : Int)) ∧ Wr (Decidable.decide (List.length (List.drop (Int.toNat (1 : Int)) (List.take (Int.toNat (↑(List.length
  x.fst.snd.snd.snd.fst) : Int)) x.fst.snd.snd.snd.fst)) * (8 : Nat) ≤ (140737488355328 : Nat)) = Bool.true) ∧ Wr True ∧ Wr ((List.length x.fst.snd.snd.fst + List.length (x.snd.fst :: nilL Int)) * (8 : Nat) ≤
  (140737488355328 : Nat)) ∧ Wr ((0 : Nat) < List.length (x.snd.fst :: nilL Int)) ∧ Wr (List.length ((List.getD x.fst.snd.snd.snd.fst (Int.toNat (0 : Int)) (0 : Int), x.snd.fst, (0 : Int), ()) :: nilL (Int × Int × Int ×
  Unit)) * (24 : Nat) ≤ (140737488355328 : Nat)) ∧ Wr (Bool.true = Bool.true) ∧ Wr ((!x.fst.snd.snd.snd.snd.snd.snd.fst) = Bool.true → Bool.true = Bool.true) ∧ ((x.fst.fst, x.fst.snd.fst, x.fst.snd.snd.fst ++ x.snd.fst ::
  nilL Int, List.drop (Int.toNat (1 : Int)) (List.take (Int.toNat (↑(List.length x.fst.snd.snd.snd.fst) : Int)) x.fst.snd.snd.snd.fst), partF (endF x.fst.snd.snd.snd.snd.fst) (1 : Int), noteS
  x.fst.snd.snd.snd.snd.snd.fst, x.fst.snd.snd.snd.snd.snd.snd), ((List.getD x.fst.snd.snd.snd.fst (Int.toNat (0 : Int)) (0 : Int), x.snd.fst, (0 : Int), ()) :: nilL (Int × Int × Int × Unit), nilL Int,
  !x.fst.snd.snd.snd.snd.snd.snd.fst && startsF (partF (endF x.fst.snd.snd.snd.snd.fst) (1 : Int)), Bool.false || partC (endF x.fst.snd.snd.snd.snd.fst) (1 : Int), ()), ()) = (outB (toldD x.fst x.snd.fst x.snd.snd.fst
  x.snd.snd.snd.snd.fst x.snd.snd.snd.snd.snd.fst), outT (toldD x.fst x.snd.fst x.snd.snd.fst x.snd.snd.snd.snd.fst x.snd.snd.snd.snd.snd.fst), ())) (bcase (Decidable.decide ((↑(List.length x.fst.snd.fst) : Int) <
  x.fst.fst.snd.fst)) (Wr True ∧ Wr ((List.length x.fst.snd.fst + List.length ((x.snd.fst, x.snd.snd.snd.snd.fst, ()) :: nilL (Int × Int × Unit))) * (16 : Nat) ≤ (140737488355328 : Nat)) ∧ Wr ((0 : Nat) < List.length
  ((x.snd.fst, x.snd.snd.snd.snd.fst, ()) :: nilL (Int × Int × Unit))) ∧ Wr ((!x.fst.snd.snd.snd.snd.snd.snd.fst) = Bool.true → Bool.true = Bool.true) ∧ ((x.fst.fst, x.fst.snd.fst ++ (x.snd.fst, x.snd.snd.snd.snd.fst, ())
  :: nilL (Int × Int × Unit), x.fst.snd.snd.fst, x.fst.snd.snd.snd.fst, endF x.fst.snd.snd.snd.snd.fst, noteS x.fst.snd.snd.snd.snd.snd.fst, x.fst.snd.snd.snd.snd.snd.snd), (nilL (Int × Int × Int × Unit), nilL Int,
  !x.fst.snd.snd.snd.snd.snd.snd.fst && startsF (endF x.fst.snd.snd.snd.snd.fst), Bool.false, ()), ()) = (outB (toldD x.fst x.snd.fst x.snd.snd.fst x.snd.snd.snd.snd.fst x.snd.snd.snd.snd.snd.fst), outT (toldD x.fst
  x.snd.fst x.snd.snd.fst x.snd.snd.snd.snd.fst x.snd.snd.snd.snd.snd.fst), ())) (Wr (List.length (x.snd.fst :: nilL Int) * (8 : Nat) ≤ (140737488355328 : Nat)) ∧ Wr ((!x.fst.snd.snd.snd.snd.snd.snd.fst) = Bool.true →
  Bool.true = Bool.true) ∧ ((x.fst.fst, x.fst.snd.fst, x.fst.snd.snd.fst, x.fst.snd.snd.snd.fst, endF x.fst.snd.snd.snd.snd.fst, noteS x.fst.snd.snd.snd.snd.snd.fst, x.fst.snd.snd.snd.snd.snd.snd), (nilL (Int × Int × Int
  × Unit), x.snd.fst :: nilL Int, !x.fst.snd.snd.snd.snd.snd.snd.fst && startsF (endF x.fst.snd.snd.snd.snd.fst), Bool.false, ()), ()) = (outB (toldD x.fst x.snd.fst x.snd.snd.fst x.snd.snd.snd.snd.fst
  x.snd.snd.snd.snd.snd.fst), outT (toldD x.fst x.snd.fst x.snd.snd.fst x.snd.snd.snd.snd.fst x.snd.snd.snd.snd.snd.fst), ())))) (bcase (!Decidable.decide (x.snd.snd.fst = (191 : Int))) ((Wr (AlI x.fst.snd.snd.snd.fst
  x.snd.snd.fst (0 : Int) (nilL (Int × Int × Int × Unit))) ∧ Wr ((0 : Int) = (0 : Int)) ∧ Wr (x.snd.snd.fst = x.snd.snd.fst) ∧ Wr (x.fst.snd.snd.snd.fst = x.fst.snd.snd.snd.fst) ∧ Wr ((↑(List.length x.fst.snd.snd.snd.fst)
  : Int) = (↑(List.length x.fst.snd.snd.snd.fst) : Int)) ∧ Wr (x.fst.fst.fst = x.fst.fst.fst) ∧ Wr (x.fst.fst.snd.fst = x.fst.fst.snd.fst) ∧ Wr (x.fst.fst.snd.snd.fst = x.fst.fst.snd.snd.fst) ∧ Wr
  (x.fst.fst.snd.snd.snd.fst = x.fst.fst.snd.snd.snd.fst) ∧ Wr (x.fst.fst.snd.snd.snd.snd.fst = x.fst.fst.snd.snd.snd.snd.fst) ∧ Wr (x.fst.fst.snd.snd.snd.snd.snd.fst = x.fst.fst.snd.snd.snd.snd.snd.fst) ∧ Wr
  (x.fst.fst.snd.snd.snd.snd.snd.snd.fst = x.fst.fst.snd.snd.snd.snd.snd.snd.fst) ∧ Wr (x.fst.fst.snd.snd.snd.snd.snd.snd.snd.fst = x.fst.fst.snd.snd.snd.snd.snd.snd.snd.fst) ∧ Wr
  (x.fst.fst.snd.snd.snd.snd.snd.snd.snd.snd.fst = x.fst.fst.snd.snd.snd.snd.snd.snd.snd.snd.fst) ∧ Wr (x.fst.snd.fst = x.fst.snd.fst) ∧ Wr (x.fst.snd.snd.fst = x.fst.snd.snd.fst) ∧ Wr (x.fst.snd.snd.snd.fst =
  x.fst.snd.snd.snd.fst) ∧ Wr ((endF x.fst.snd.snd.snd.snd.fst).fst = (endF x.fst.snd.snd.snd.snd.fst).fst) ∧ Wr ((endF x.fst.snd.snd.snd.snd.fst).snd.fst = (endF x.fst.snd.snd.snd.snd.fst).snd.fst) ∧ Wr ((endF
  x.fst.snd.snd.snd.snd.fst).snd.snd.fst = (endF x.fst.snd.snd.snd.snd.fst).snd.snd.fst) ∧ Wr (noteS x.fst.snd.snd.snd.snd.snd.fst = noteS x.fst.snd.snd.snd.snd.snd.fst) ∧ Wr (x.fst.snd.snd.snd.snd.snd.snd.fst =
  x.fst.snd.snd.snd.snd.snd.snd.fst) ∧ Wr (Bool.false = Bool.false) ∧ Wr (Bool.false = Bool.false) ∧ Wr (x.snd.snd.snd.snd.fst = x.snd.snd.snd.snd.fst) ∧ Wr (x.snd.snd.snd.snd.snd.fst = x.snd.snd.snd.snd.snd.fst) ∧ Wr
  (nilL (Int × Int × Int × Unit) = nilL (Int × Int × Int × Unit)) ∧ Wr (x.fst.fst.fst = x.fst.fst.fst) ∧ Wr (x.fst.fst.snd.fst = x.fst.fst.snd.fst) ∧ Wr (x.fst.fst.snd.snd.fst = x.fst.fst.snd.snd.fst) ∧ Wr
  (x.fst.fst.snd.snd.snd.fst = x.fst.fst.snd.snd.snd.fst) ∧ Wr (x.fst.fst.snd.snd.snd.snd.fst = x.fst.fst.snd.snd.snd.snd.fst) ∧ Wr (x.fst.fst.snd.snd.snd.snd.snd.fst = x.fst.fst.snd.snd.snd.snd.snd.fst) ∧ Wr
  (x.fst.fst.snd.snd.snd.snd.snd.snd.fst = x.fst.fst.snd.snd.snd.snd.snd.snd.fst) ∧ Wr (x.fst.fst.snd.snd.snd.snd.snd.snd.snd.fst = x.fst.fst.snd.snd.snd.snd.snd.snd.snd.fst) ∧ Wr
  (x.fst.fst.snd.snd.snd.snd.snd.snd.snd.snd.fst = x.fst.fst.snd.snd.snd.snd.snd.snd.snd.snd.fst) ∧ Wr (x.fst.snd.fst = x.fst.snd.fst) ∧ Wr (x.fst.snd.snd.fst = x.fst.snd.snd.fst) ∧ Wr (x.fst.snd.snd.snd.fst =
  x.fst.snd.snd.snd.fst) ∧ Wr (x.fst.snd.snd.snd.snd.fst.fst = x.fst.snd.snd.snd.snd.fst.fst) ∧ Wr (x.fst.snd.snd.snd.snd.fst.snd.fst = x.fst.snd.snd.snd.snd.fst.snd.fst) ∧ Wr (x.fst.snd.snd.snd.snd.fst.snd.snd.fst =
  x.fst.snd.snd.snd.snd.fst.snd.snd.fst) ∧ Wr (x.fst.snd.snd.snd.snd.snd.fst = x.fst.snd.snd.snd.snd.snd.fst) ∧ Wr (x.fst.snd.snd.snd.snd.snd.snd.fst = x.fst.snd.snd.snd.snd.snd.snd.fst) ∧ Wr (Bool.false = Bool.false) ∧
  Wr (Bool.false = Bool.false) ∧ Wr ((0 : Int) = (0 : Int)) ∧ Wr ((0 : Int) = (0 : Int)) ∧ Wr ((0 : Int) = (0 : Int)) ∧ Wr ((0 : Int) = (0 : Int)) ∧ Wr ((0 : Int) = (0 : Int)) ∧ Wr ((0 : Int) = (0 : Int)) ∧ Wr ((0 : Int)
  = (0 : Int)) ∧ Wr ((0 : Int) = (0 : Int)) ∧ Wr ((0 : Int) = (0 : Int)) ∧ Wr ((0 : Int) = (0 : Int)) ∧ Wr (Bool.false = Bool.false) ∧ Wr ((0 : Int) = (0 : Int)) ∧ Wr (Bool.false = Bool.false) ∧ Wr (x.fst.fst.fst =
  x.fst.fst.fst) ∧ Wr (x.fst.fst.snd.fst = x.fst.fst.snd.fst) ∧ Wr (x.fst.fst.snd.snd.fst = x.fst.fst.snd.snd.fst) ∧ Wr (x.fst.fst.snd.snd.snd.fst = x.fst.fst.snd.snd.snd.fst) ∧ Wr (x.fst.fst.snd.snd.snd.snd.fst =
  x.fst.fst.snd.snd.snd.snd.fst) ∧ Wr (x.fst.fst.snd.snd.snd.snd.snd.fst = x.fst.fst.snd.snd.snd.snd.snd.fst) ∧ Wr (x.fst.fst.snd.snd.snd.snd.snd.snd.fst = x.fst.fst.snd.snd.snd.snd.snd.snd.fst) ∧ Wr
  (x.fst.fst.snd.snd.snd.snd.snd.snd.snd.fst = x.fst.fst.snd.snd.snd.snd.snd.snd.snd.fst) ∧ Wr (x.fst.fst.snd.snd.snd.snd.snd.snd.snd.snd.fst = x.fst.fst.snd.snd.snd.snd.snd.snd.snd.snd.fst) ∧ Wr (x.fst.snd.fst =
  x.fst.snd.fst) ∧ Wr (x.fst.snd.snd.fst = x.fst.snd.snd.fst) ∧ Wr (x.fst.snd.snd.snd.fst = x.fst.snd.snd.snd.fst) ∧ Wr (x.fst.snd.snd.snd.snd.fst.fst = x.fst.snd.snd.snd.snd.fst.fst) ∧ Wr
  (x.fst.snd.snd.snd.snd.fst.snd.fst = x.fst.snd.snd.snd.snd.fst.snd.fst) ∧ Wr (x.fst.snd.snd.snd.snd.fst.snd.snd.fst = x.fst.snd.snd.snd.snd.fst.snd.snd.fst) ∧ Wr (x.fst.snd.snd.snd.snd.snd.fst =
  x.fst.snd.snd.snd.snd.snd.fst) ∧ Wr (x.fst.snd.snd.snd.snd.snd.snd.fst = x.fst.snd.snd.snd.snd.snd.snd.fst)) ∧ ∀ (x_1 : Int × List (Int × Int × Int × Unit)), Wr (AlI x.fst.snd.snd.snd.fst x.snd.snd.fst x_1.fst x_1.snd)
  → bcase (Decidable.decide (x_1.fst < (↑(List.length x.fst.snd.snd.snd.fst) : Int))) (Wr ((0 : Int) ≤ x_1.fst) ∧ Wr (x_1.fst < (↑(List.length x.fst.snd.snd.snd.fst) : Int)) ∧ Wr (Bool.true = Bool.true) ∧ Wr ((List.length
  x_1.snd + List.length ((List.getD x.fst.snd.snd.snd.fst (Int.toNat x_1.fst) (0 : Int), (-1 : Int), x.snd.snd.fst, ()) :: nilL (Int × Int × Int × Unit))) * (24 : Nat) ≤ (140737488355328 : Nat)) ∧ Wr (AlI
  x.fst.snd.snd.snd.fst x.snd.snd.fst (IntKind.wrap IntKind.i64 (x_1.fst + (1 : Int))) (x_1.snd ++ (List.getD x.fst.snd.snd.snd.fst (Int.toNat x_1.fst) (0 : Int), (-1 : Int), x.snd.snd.fst, ()) :: nilL (Int × Int × Int ×
  Unit))) ∧ Wr (List.length x.fst.snd.snd.snd.fst - Int.toNat (IntKind.wrap IntKind.i64 (x_1.fst + (1 : Int))) < List.length x.fst.snd.snd.snd.fst - Int.toNat x_1.fst) ∧ Wr (IntKind.wrap IntKind.i64 (x_1.fst + (1 : Int))
  = IntKind.wrap IntKind.i64 (x_1.fst + (1 : Int))) ∧ Wr (x.snd.snd.fst = x.snd.snd.fst) ∧ Wr (x.fst.snd.snd.snd.fst = x.fst.snd.snd.snd.fst) ∧ Wr ((↑(List.length x.fst.snd.snd.snd.fst) : Int) = (↑(List.length
  x.fst.snd.snd.snd.fst) : Int)) ∧ Wr (x.fst.fst.fst = x.fst.fst.fst) ∧ Wr (x.fst.fst.snd.fst = x.fst.fst.snd.fst) ∧ Wr (x.fst.fst.snd.snd.fst = x.fst.fst.snd.snd.fst) ∧ Wr (x.fst.fst.snd.snd.snd.fst =
  x.fst.fst.snd.snd.snd.fst) ∧ Wr (x.fst.fst.snd.snd.snd.snd.fst = x.fst.fst.snd.snd.snd.snd.fst) ∧ Wr (x.fst.fst.snd.snd.snd.snd.snd.fst = x.fst.fst.snd.snd.snd.snd.snd.fst) ∧ Wr (x.fst.fst.snd.snd.snd.snd.snd.snd.fst =
  x.fst.fst.snd.snd.snd.snd.snd.snd.fst) ∧ Wr (x.fst.fst.snd.snd.snd.snd.snd.snd.snd.fst = x.fst.fst.snd.snd.snd.snd.snd.snd.snd.fst) ∧ Wr (x.fst.fst.snd.snd.snd.snd.snd.snd.snd.snd.fst =
  x.fst.fst.snd.snd.snd.snd.snd.snd.snd.snd.fst) ∧ Wr (x.fst.snd.fst = x.fst.snd.fst) ∧ Wr (x.fst.snd.snd.fst = x.fst.snd.snd.fst) ∧ Wr (x.fst.snd.snd.snd.fst = x.fst.snd.snd.snd.fst) ∧ Wr ((endF
  x.fst.snd.snd.snd.snd.fst).fst = (endF x.fst.snd.snd.snd.snd.fst).fst) ∧ Wr ((endF x.fst.snd.snd.snd.snd.fst).snd.fst = (endF x.fst.snd.snd.snd.snd.fst).snd.fst) ∧ Wr ((endF x.fst.snd.snd.snd.snd.fst).snd.snd.fst =
  (endF x.fst.snd.snd.snd.snd.fst).snd.snd.fst) ∧ Wr (noteS x.fst.snd.snd.snd.snd.snd.fst = noteS x.fst.snd.snd.snd.snd.snd.fst) ∧ Wr (x.fst.snd.snd.snd.snd.snd.snd.fst = x.fst.snd.snd.snd.snd.snd.snd.fst) ∧ Wr
  (Bool.false = Bool.false) ∧ Wr (Bool.false = Bool.false) ∧ Wr (x.snd.snd.snd.snd.fst = x.snd.snd.snd.snd.fst) ∧ Wr (x.snd.snd.snd.snd.snd.fst = x.snd.snd.snd.snd.snd.fst) ∧ Wr (x_1.snd ++ (List.getD
  x.fst.snd.snd.snd.fst (Int.toNat x_1.fst) (0 : Int), (-1 : Int), x.snd.snd.fst, ()) :: nilL (Int × Int × Int × Unit) = x_1.snd ++ (List.getD x.fst.snd.snd.snd.fst (Int.toNat x_1.fst) (0 : Int), (-1 : Int),
  x.snd.snd.fst, ()) :: nilL (Int × Int × Int × Unit)) ∧ Wr (x.fst.fst.fst = x.fst.fst.fst) ∧ Wr (x.fst.fst.snd.fst = x.fst.fst.snd.fst) ∧ Wr (x.fst.fst.snd.snd.fst = x.fst.fst.snd.snd.fst) ∧ Wr (x.fst.fst.snd.snd.snd.fst
  = x.fst.fst.snd.snd.snd.fst) ∧ Wr (x.fst.fst.snd.snd.snd.snd.fst = x.fst.fst.snd.snd.snd.snd.fst) ∧ Wr (x.fst.fst.snd.snd.snd.snd.snd.fst = x.fst.fst.snd.snd.snd.snd.snd.fst) ∧ Wr (x.fst.fst.snd.snd.snd.snd.snd.snd.fst
  = x.fst.fst.snd.snd.snd.snd.snd.snd.fst) ∧ Wr (x.fst.fst.snd.snd.snd.snd.snd.snd.snd.fst = x.fst.fst.snd.snd.snd.snd.snd.snd.snd.fst) ∧ Wr (x.fst.fst.snd.snd.snd.snd.snd.snd.snd.snd.fst =
  x.fst.fst.snd.snd.snd.snd.snd.snd.snd.snd.fst) ∧ Wr (x.fst.snd.fst = x.fst.snd.fst) ∧ Wr (x.fst.snd.snd.fst = x.fst.snd.snd.fst) ∧ Wr (x.fst.snd.snd.snd.fst = x.fst.snd.snd.snd.fst) ∧ Wr (x.fst.snd.snd.snd.snd.fst.fst =
  x.fst.snd.snd.snd.snd.fst.fst) ∧ Wr (x.fst.snd.snd.snd.snd.fst.snd.fst = x.fst.snd.snd.snd.snd.fst.snd.fst) ∧ Wr (x.fst.snd.snd.snd.snd.fst.snd.snd.fst = x.fst.snd.snd.snd.snd.fst.snd.snd.fst) ∧ Wr
  (x.fst.snd.snd.snd.snd.snd.fst = x.fst.snd.snd.snd.snd.snd.fst) ∧ Wr (x.fst.snd.snd.snd.snd.snd.snd.fst = x.fst.snd.snd.snd.snd.snd.snd.fst) ∧ Wr (Bool.false = Bool.false) ∧ Wr (Bool.false = Bool.false) ∧ Wr ((0 : Int)
  = (0 : Int)) ∧ Wr ((0 : Int) = (0 : Int)) ∧ Wr ((0 : Int) = (0 : Int)) ∧ Wr ((0 : Int) = (0 : Int)) ∧ Wr ((0 : Int) = (0 : Int)) ∧ Wr ((0 : Int) = (0 : Int)) ∧ Wr ((0 : Int) = (0 : Int)) ∧ Wr ((0 : Int) = (0 : Int)) ∧
  Wr ((0 : Int) = (0 : Int)) ∧ Wr ((0 : Int) = (0 : Int)) ∧ Wr (Bool.false = Bool.false) ∧ Wr ((0 : Int) = (0 : Int)) ∧ Wr (Bool.false = Bool.false) ∧ Wr (x.fst.fst.fst = x.fst.fst.fst) ∧ Wr (x.fst.fst.snd.fst =
  x.fst.fst.snd.fst) ∧ Wr (x.fst.fst.snd.snd.fst = x.fst.fst.snd.snd.fst) ∧ Wr (x.fst.fst.snd.snd.snd.fst = x.fst.fst.snd.snd.snd.fst) ∧ Wr (x.fst.fst.snd.snd.snd.snd.fst = x.fst.fst.snd.snd.snd.snd.fst) ∧ Wr
  (x.fst.fst.snd.snd.snd.snd.snd.fst = x.fst.fst.snd.snd.snd.snd.snd.fst) ∧ Wr (x.fst.fst.snd.snd.snd.snd.snd.snd.fst = x.fst.fst.snd.snd.snd.snd.snd.snd.fst) ∧ Wr (x.fst.fst.snd.snd.snd.snd.snd.snd.snd.fst =
  x.fst.fst.snd.snd.snd.snd.snd.snd.snd.fst) ∧ Wr (x.fst.fst.snd.snd.snd.snd.snd.snd.snd.snd.fst = x.fst.fst.snd.snd.snd.snd.snd.snd.snd.snd.fst) ∧ Wr (x.fst.snd.fst = x.fst.snd.fst) ∧ Wr (x.fst.snd.snd.fst =
  x.fst.snd.snd.fst) ∧ Wr (x.fst.snd.snd.snd.fst = x.fst.snd.snd.snd.fst) ∧ Wr (x.fst.snd.snd.snd.snd.fst.fst = x.fst.snd.snd.snd.snd.fst.fst) ∧ Wr (x.fst.snd.snd.snd.snd.fst.snd.fst = x.fst.snd.snd.snd.snd.fst.snd.fst) ∧
  Wr (x.fst.snd.snd.snd.snd.fst.snd.snd.fst = x.fst.snd.snd.snd.snd.fst.snd.snd.fst) ∧ Wr (x.fst.snd.snd.snd.snd.snd.fst = x.fst.snd.snd.snd.snd.snd.fst) ∧ Wr (x.fst.snd.snd.snd.snd.snd.snd.fst =
  x.fst.snd.snd.snd.snd.snd.snd.fst)) (Wr (Bool.true = Bool.true) ∧ Wr ((!x.fst.snd.snd.snd.snd.snd.snd.fst) = Bool.true → Bool.true = Bool.true) ∧ ((x.fst.fst, x.fst.snd.fst, x.fst.snd.snd.fst, nilL Int, partF (endF
  x.fst.snd.snd.snd.snd.fst) (↑(List.length x.fst.snd.snd.snd.fst) : Int), noteS x.fst.snd.snd.snd.snd.snd.fst, x.fst.snd.snd.snd.snd.snd.snd), (x_1.snd, nilL Int, !x.fst.snd.snd.snd.snd.snd.snd.fst && startsF (partF
  (endF x.fst.snd.snd.snd.snd.fst) (↑(List.length x.fst.snd.snd.snd.fst) : Int)), Bool.false || partC (endF x.fst.snd.snd.snd.snd.fst) (↑(List.length x.fst.snd.snd.snd.fst) : Int), ()), ()) = (outB (toldD x.fst x.snd.fst
  x.snd.snd.fst x.snd.snd.snd.snd.fst x.snd.snd.snd.snd.snd.fst), outT (toldD x.fst x.snd.fst x.snd.snd.fst x.snd.snd.snd.snd.fst x.snd.snd.snd.snd.snd.fst), ()))) (Wr ((!x.fst.snd.snd.snd.snd.snd.snd.fst) = Bool.true →
  Bool.true = Bool.true) ∧ ((x.fst.fst, x.fst.snd.fst, x.fst.snd.snd.fst, x.fst.snd.snd.snd.fst, endF x.fst.snd.snd.snd.snd.fst, noteS x.fst.snd.snd.snd.snd.snd.fst, x.fst.snd.snd.snd.snd.snd.snd), (nilL (Int × Int × Int
  × Unit), nilL Int, !x.fst.snd.snd.snd.snd.snd.snd.fst && startsF (endF x.fst.snd.snd.snd.snd.fst), Bool.false, ()), ()) = (outB (toldD x.fst x.snd.fst x.snd.snd.fst x.snd.snd.snd.snd.fst x.snd.snd.snd.snd.snd.fst), outT
  (toldD x.fst x.snd.fst x.snd.snd.fst x.snd.snd.snd.snd.fst x.snd.snd.snd.snd.snd.fst), ()))))) (Wr (List.length (x.snd.fst :: nilL Int) * (8 : Nat) ≤ (140737488355328 : Nat)) ∧ Wr ((!x.fst.snd.snd.snd.snd.snd.snd.fst) =
  Bool.true → Bool.true = Bool.true) ∧ ((x.fst.fst, x.fst.snd.fst, x.fst.snd.snd.fst, x.fst.snd.snd.snd.fst, endF x.fst.snd.snd.snd.snd.fst, noteS x.fst.snd.snd.snd.snd.snd.fst, x.fst.snd.snd.snd.snd.snd.snd), (nilL (Int
  × Int × Int × Unit), x.snd.fst :: nilL Int, !x.fst.snd.snd.snd.snd.snd.snd.fst && startsF (endF x.fst.snd.snd.snd.snd.fst), Bool.false, ()), ()) = (outB (toldD x.fst x.snd.fst x.snd.snd.fst x.snd.snd.snd.snd.fst
  x.snd.snd.snd.snd.snd.fst), outT (toldD x.fst x.snd.fst x.snd.snd.fst x.snd.snd.snd.snd.fst x.snd.snd.snd.snd.snd.fst), ()))) (bcase (Decidable.decide (x.snd.snd.fst = (0 : Int))) (bcase (Decidable.decide
  ((↑(List.length x.fst.snd.snd.snd.fst) : Int) > (0 : Int))) (Wr ((0 : Int) ≤ (0 : Int)) ∧ Wr ((0 : Int) < (↑(List.length x.fst.snd.snd.snd.fst) : Int)) ∧ Wr (Bool.true = Bool.true) ∧ Wr ((0 : Int) ≤ (1 : Int)) ∧ Wr ((1
  : Int) ≤ (↑(List.length x.fst.snd.snd.snd.fst) : Int)) ∧ Wr ((↑(List.length x.fst.snd.snd.snd.fst) : Int) ≤ (↑(List.length x.fst.snd.snd.snd.fst) : Int)) ∧ Wr (Decidable.decide (List.length (List.drop (Int.toNat (1 :
  Int)) (List.take (Int.toNat (↑(List.length x.fst.snd.snd.snd.fst) : Int)) x.fst.snd.snd.snd.fst)) * (8 : Nat) ≤ (140737488355328 : Nat)) = Bool.true) ∧ Wr True ∧ Wr ((List.length x.fst.snd.snd.fst + List.length
  (x.snd.fst :: nilL Int)) * (8 : Nat) ≤ (140737488355328 : Nat)) ∧ Wr ((0 : Nat) < List.length (x.snd.fst :: nilL Int)) ∧ Wr (List.length ((List.getD x.fst.snd.snd.snd.fst (Int.toNat (0 : Int)) (0 : Int), x.snd.fst, (0 :
  Int), ()) :: nilL (Int × Int × Int × Unit)) * (24 : Nat) ≤ (140737488355328 : Nat)) ∧ Wr (Bool.true = Bool.true) ∧ Wr ((!x.fst.snd.snd.snd.snd.snd.snd.fst) = Bool.true → Bool.true = Bool.true) ∧ ((x.fst.fst,
  x.fst.snd.fst, x.fst.snd.snd.fst ++ x.snd.fst :: nilL Int, List.drop (Int.toNat (1 : Int)) (List.take (Int.toNat (↑(List.length x.fst.snd.snd.snd.fst) : Int)) x.fst.snd.snd.snd.fst), partF (endF
  x.fst.snd.snd.snd.snd.fst) (1 : Int), noteS x.fst.snd.snd.snd.snd.snd.fst, x.fst.snd.snd.snd.snd.snd.snd), ((List.getD x.fst.snd.snd.snd.fst (Int.toNat (0 : Int)) (0 : Int), x.snd.fst, (0 : Int), ()) :: nilL (Int × Int
  × Int × Unit), nilL Int, !x.fst.snd.snd.snd.snd.snd.snd.fst && startsF (partF (endF x.fst.snd.snd.snd.snd.fst) (1 : Int)), Bool.false || partC (endF x.fst.snd.snd.snd.snd.fst) (1 : Int), ()), ()) = (outB (toldD x.fst
  x.snd.fst x.snd.snd.fst x.snd.snd.snd.snd.fst x.snd.snd.snd.snd.snd.fst), outT (toldD x.fst x.snd.fst x.snd.snd.fst x.snd.snd.snd.snd.fst x.snd.snd.snd.snd.snd.fst), ())) (bcase (Decidable.decide ((↑(List.length
  x.fst.snd.fst) : Int) < x.fst.fst.snd.fst)) (Wr True ∧ Wr ((List.length x.fst.snd.fst + List.length ((x.snd.fst, x.snd.snd.snd.snd.fst, ()) :: nilL (Int × Int × Unit))) * (16 : Nat) ≤ (140737488355328 : Nat)) ∧ Wr ((0 :
  Nat) < List.length ((x.snd.fst, x.snd.snd.snd.snd.fst, ()) :: nilL (Int × Int × Unit))) ∧ Wr ((!x.fst.snd.snd.snd.snd.snd.snd.fst) = Bool.true → Bool.true = Bool.true) ∧ ((x.fst.fst, x.fst.snd.fst ++ (x.snd.fst,
  x.snd.snd.snd.snd.fst, ()) :: nilL (Int × Int × Unit), x.fst.snd.snd.fst, x.fst.snd.snd.snd.fst, endF x.fst.snd.snd.snd.snd.fst, noteS x.fst.snd.snd.snd.snd.snd.fst, x.fst.snd.snd.snd.snd.snd.snd), (nilL (Int × Int ×
  Int × Unit), nilL Int, !x.fst.snd.snd.snd.snd.snd.snd.fst && startsF (endF x.fst.snd.snd.snd.snd.fst), Bool.false, ()), ()) = (outB (toldD x.fst x.snd.fst x.snd.snd.fst x.snd.snd.snd.snd.fst x.snd.snd.snd.snd.snd.fst),
  outT (toldD x.fst x.snd.fst x.snd.snd.fst x.snd.snd.snd.snd.fst x.snd.snd.snd.snd.snd.fst), ())) (Wr (List.length (x.snd.fst :: nilL Int) * (8 : Nat) ≤ (140737488355328 : Nat)) ∧ Wr ((!x.fst.snd.snd.snd.snd.snd.snd.fst)
  = Bool.true → Bool.true = Bool.true) ∧ ((x.fst.fst, x.fst.snd.fst, x.fst.snd.snd.fst, x.fst.snd.snd.snd.fst, endF x.fst.snd.snd.snd.snd.fst, noteS x.fst.snd.snd.snd.snd.snd.fst, x.fst.snd.snd.snd.snd.snd.snd), (nilL
  (Int × Int × Int × Unit), x.snd.fst :: nilL Int, !x.fst.snd.snd.snd.snd.snd.snd.fst && startsF (endF x.fst.snd.snd.snd.snd.fst), Bool.false, ()), ()) = (outB (toldD x.fst x.snd.fst x.snd.snd.fst x.snd.snd.snd.snd.fst
  x.snd.snd.snd.snd.snd.fst), outT (toldD x.fst x.snd.fst x.snd.snd.fst x.snd.snd.snd.snd.fst x.snd.snd.snd.snd.snd.fst), ())))) (bcase (!Decidable.decide (x.snd.snd.fst = (191 : Int))) ((Wr (AlI x.fst.snd.snd.snd.fst
  x.snd.snd.fst (0 : Int) (nilL (Int × Int × Int × Unit))) ∧ Wr ((0 : Int) = (0 : Int)) ∧ Wr (x.snd.snd.fst = x.snd.snd.fst) ∧ Wr (x.fst.snd.snd.snd.fst = x.fst.snd.snd.snd.fst) ∧ Wr ((↑(List.length x.fst.snd.snd.snd.fst)
  : Int) = (↑(List.length x.fst.snd.snd.snd.fst) : Int)) ∧ Wr (x.fst.fst.fst = x.fst.fst.fst) ∧ Wr (x.fst.fst.snd.fst = x.fst.fst.snd.fst) ∧ Wr (x.fst.fst.snd.snd.fst = x.fst.fst.snd.snd.fst) ∧ Wr
  (x.fst.fst.snd.snd.snd.fst = x.fst.fst.snd.snd.snd.fst) ∧ Wr (x.fst.fst.snd.snd.snd.snd.fst = x.fst.fst.snd.snd.snd.snd.fst) ∧ Wr (x.fst.fst.snd.snd.snd.snd.snd.fst = x.fst.fst.snd.snd.snd.snd.snd.fst) ∧ Wr
  (x.fst.fst.snd.snd.snd.snd.snd.snd.fst = x.fst.fst.snd.snd.snd.snd.snd.snd.fst) ∧ Wr (x.fst.fst.snd.snd.snd.snd.snd.snd.snd.fst = x.fst.fst.snd.snd.snd.snd.snd.snd.snd.fst) ∧ Wr
  (x.fst.fst.snd.snd.snd.snd.snd.snd.snd.snd.fst = x.fst.fst.snd.snd.snd.snd.snd.snd.snd.snd.fst) ∧ Wr (x.fst.snd.fst = x.fst.snd.fst) ∧ Wr (x.fst.snd.snd.fst = x.fst.snd.snd.fst) ∧ Wr (x.fst.snd.snd.snd.fst =
  x.fst.snd.snd.snd.fst) ∧ Wr ((endF x.fst.snd.snd.snd.snd.fst).fst = (endF x.fst.snd.snd.snd.snd.fst).fst) ∧ Wr ((endF x.fst.snd.snd.snd.snd.fst).snd.fst = (endF x.fst.snd.snd.snd.snd.fst).snd.fst) ∧ Wr ((endF
  x.fst.snd.snd.snd.snd.fst).snd.snd.fst = (endF x.fst.snd.snd.snd.snd.fst).snd.snd.fst) ∧ Wr (noteS x.fst.snd.snd.snd.snd.snd.fst = noteS x.fst.snd.snd.snd.snd.snd.fst) ∧ Wr (x.fst.snd.snd.snd.snd.snd.snd.fst =
  x.fst.snd.snd.snd.snd.snd.snd.fst) ∧ Wr (Bool.false = Bool.false) ∧ Wr (Bool.false = Bool.false) ∧ Wr (x.snd.snd.snd.snd.fst = x.snd.snd.snd.snd.fst) ∧ Wr (x.snd.snd.snd.snd.snd.fst = x.snd.snd.snd.snd.snd.fst) ∧ Wr
  (nilL (Int × Int × Int × Unit) = nilL (Int × Int × Int × Unit)) ∧ Wr (x.fst.fst.fst = x.fst.fst.fst) ∧ Wr (x.fst.fst.snd.fst = x.fst.fst.snd.fst) ∧ Wr (x.fst.fst.snd.snd.fst = x.fst.fst.snd.snd.fst) ∧ Wr
  (x.fst.fst.snd.snd.snd.fst = x.fst.fst.snd.snd.snd.fst) ∧ Wr (x.fst.fst.snd.snd.snd.snd.fst = x.fst.fst.snd.snd.snd.snd.fst) ∧ Wr (x.fst.fst.snd.snd.snd.snd.snd.fst = x.fst.fst.snd.snd.snd.snd.snd.fst) ∧ Wr
  (x.fst.fst.snd.snd.snd.snd.snd.snd.fst = x.fst.fst.snd.snd.snd.snd.snd.snd.fst) ∧ Wr (x.fst.fst.snd.snd.snd.snd.snd.snd.snd.fst = x.fst.fst.snd.snd.snd.snd.snd.snd.snd.fst) ∧ Wr
  (x.fst.fst.snd.snd.snd.snd.snd.snd.snd.snd.fst = x.fst.fst.snd.snd.snd.snd.snd.snd.snd.snd.fst) ∧ Wr (x.fst.snd.fst = x.fst.snd.fst) ∧ Wr (x.fst.snd.snd.fst = x.fst.snd.snd.fst) ∧ Wr (x.fst.snd.snd.snd.fst =
  x.fst.snd.snd.snd.fst) ∧ Wr (x.fst.snd.snd.snd.snd.fst.fst = x.fst.snd.snd.snd.snd.fst.fst) ∧ Wr (x.fst.snd.snd.snd.snd.fst.snd.fst = x.fst.snd.snd.snd.snd.fst.snd.fst) ∧ Wr (x.fst.snd.snd.snd.snd.fst.snd.snd.fst =
  x.fst.snd.snd.snd.snd.fst.snd.snd.fst) ∧ Wr (x.fst.snd.snd.snd.snd.snd.fst = x.fst.snd.snd.snd.snd.snd.fst) ∧ Wr (x.fst.snd.snd.snd.snd.snd.snd.fst = x.fst.snd.snd.snd.snd.snd.snd.fst) ∧ Wr (Bool.false = Bool.false) ∧
  Wr (Bool.false = Bool.false) ∧ Wr ((0 : Int) = (0 : Int)) ∧ Wr ((0 : Int) = (0 : Int)) ∧ Wr ((0 : Int) = (0 : Int)) ∧ Wr ((0 : Int) = (0 : Int)) ∧ Wr ((0 : Int) = (0 : Int)) ∧ Wr ((0 : Int) = (0 : Int)) ∧ Wr ((0 : Int)
  = (0 : Int)) ∧ Wr ((0 : Int) = (0 : Int)) ∧ Wr ((0 : Int) = (0 : Int)) ∧ Wr ((0 : Int) = (0 : Int)) ∧ Wr (Bool.false = Bool.false) ∧ Wr ((0 : Int) = (0 : Int)) ∧ Wr (Bool.false = Bool.false) ∧ Wr (x.fst.fst.fst =
  x.fst.fst.fst) ∧ Wr (x.fst.fst.snd.fst = x.fst.fst.snd.fst) ∧ Wr (x.fst.fst.snd.snd.fst = x.fst.fst.snd.snd.fst) ∧ Wr (x.fst.fst.snd.snd.snd.fst = x.fst.fst.snd.snd.snd.fst) ∧ Wr (x.fst.fst.snd.snd.snd.snd.fst =
  x.fst.fst.snd.snd.snd.snd.fst) ∧ Wr (x.fst.fst.snd.snd.snd.snd.snd.fst = x.fst.fst.snd.snd.snd.snd.snd.fst) ∧ Wr (x.fst.fst.snd.snd.snd.snd.snd.snd.fst = x.fst.fst.snd.snd.snd.snd.snd.snd.fst) ∧ Wr
  (x.fst.fst.snd.snd.snd.snd.snd.snd.snd.fst = x.fst.fst.snd.snd.snd.snd.snd.snd.snd.fst) ∧ Wr (x.fst.fst.snd.snd.snd.snd.snd.snd.snd.snd.fst = x.fst.fst.snd.snd.snd.snd.snd.snd.snd.snd.fst) ∧ Wr (x.fst.snd.fst =
  x.fst.snd.fst) ∧ Wr (x.fst.snd.snd.fst = x.fst.snd.snd.fst) ∧ Wr (x.fst.snd.snd.snd.fst = x.fst.snd.snd.snd.fst) ∧ Wr (x.fst.snd.snd.snd.snd.fst.fst = x.fst.snd.snd.snd.snd.fst.fst) ∧ Wr
  (x.fst.snd.snd.snd.snd.fst.snd.fst = x.fst.snd.snd.snd.snd.fst.snd.fst) ∧ Wr (x.fst.snd.snd.snd.snd.fst.snd.snd.fst = x.fst.snd.snd.snd.snd.fst.snd.snd.fst) ∧ Wr (x.fst.snd.snd.snd.snd.snd.fst =
  x.fst.snd.snd.snd.snd.snd.fst) ∧ Wr (x.fst.snd.snd.snd.snd.snd.snd.fst = x.fst.snd.snd.snd.snd.snd.snd.fst)) ∧ ∀ (x_1 : Int × List (Int × Int × Int × Unit)), Wr (AlI x.fst.snd.snd.snd.fst x.snd.snd.fst x_1.fst x_1.snd)
  → bcase (Decidable.decide (x_1.fst < (↑(List.length x.fst.snd.snd.snd.fst) : Int))) (Wr ((0 : Int) ≤ x_1.fst) ∧ Wr (x_1.fst < (↑(List.length x.fst.snd.snd.snd.fst) : Int)) ∧ Wr (Bool.true = Bool.true) ∧ Wr ((List.length
  x_1.snd + List.length ((List.getD x.fst.snd.snd.snd.fst (Int.toNat x_1.fst) (0 : Int), (-1 : Int), x.snd.snd.fst, ()) :: nilL (Int × Int × Int × Unit))) * (24 : Nat) ≤ (140737488355328 : Nat)) ∧ Wr (AlI
  x.fst.snd.snd.snd.fst x.snd.snd.fst (IntKind.wrap IntKind.i64 (x_1.fst + (1 : Int))) (x_1.snd ++ (List.getD x.fst.snd.snd.snd.fst (Int.toNat x_1.fst) (0 : Int), (-1 : Int), x.snd.snd.fst, ()) :: nilL (Int × Int × Int ×
  Unit))) ∧ Wr (List.length x.fst.snd.snd.snd.fst - Int.toNat (IntKind.wrap IntKind.i64 (x_1.fst + (1 : Int))) < List.length x.fst.snd.snd.snd.fst - Int.toNat x_1.fst) ∧ Wr (IntKind.wrap IntKind.i64 (x_1.fst + (1 : Int))
  = IntKind.wrap IntKind.i64 (x_1.fst + (1 : Int))) ∧ Wr (x.snd.snd.fst = x.snd.snd.fst) ∧ Wr (x.fst.snd.snd.snd.fst = x.fst.snd.snd.snd.fst) ∧ Wr ((↑(List.length x.fst.snd.snd.snd.fst) : Int) = (↑(List.length
  x.fst.snd.snd.snd.fst) : Int)) ∧ Wr (x.fst.fst.fst = x.fst.fst.fst) ∧ Wr (x.fst.fst.snd.fst = x.fst.fst.snd.fst) ∧ Wr (x.fst.fst.snd.snd.fst = x.fst.fst.snd.snd.fst) ∧ Wr (x.fst.fst.snd.snd.snd.fst =
  x.fst.fst.snd.snd.snd.fst) ∧ Wr (x.fst.fst.snd.snd.snd.snd.fst = x.fst.fst.snd.snd.snd.snd.fst) ∧ Wr (x.fst.fst.snd.snd.snd.snd.snd.fst = x.fst.fst.snd.snd.snd.snd.snd.fst) ∧ Wr (x.fst.fst.snd.snd.snd.snd.snd.snd.fst =
  x.fst.fst.snd.snd.snd.snd.snd.snd.fst) ∧ Wr (x.fst.fst.snd.snd.snd.snd.snd.snd.snd.fst = x.fst.fst.snd.snd.snd.snd.snd.snd.snd.fst) ∧ Wr (x.fst.fst.snd.snd.snd.snd.snd.snd.snd.snd.fst =
  x.fst.fst.snd.snd.snd.snd.snd.snd.snd.snd.fst) ∧ Wr (x.fst.snd.fst = x.fst.snd.fst) ∧ Wr (x.fst.snd.snd.fst = x.fst.snd.snd.fst) ∧ Wr (x.fst.snd.snd.snd.fst = x.fst.snd.snd.snd.fst) ∧ Wr ((endF
  x.fst.snd.snd.snd.snd.fst).fst = (endF x.fst.snd.snd.snd.snd.fst).fst) ∧ Wr ((endF x.fst.snd.snd.snd.snd.fst).snd.fst = (endF x.fst.snd.snd.snd.snd.fst).snd.fst) ∧ Wr ((endF x.fst.snd.snd.snd.snd.fst).snd.snd.fst =
  (endF x.fst.snd.snd.snd.snd.fst).snd.snd.fst) ∧ Wr (noteS x.fst.snd.snd.snd.snd.snd.fst = noteS x.fst.snd.snd.snd.snd.snd.fst) ∧ Wr (x.fst.snd.snd.snd.snd.snd.snd.fst = x.fst.snd.snd.snd.snd.snd.snd.fst) ∧ Wr
  (Bool.false = Bool.false) ∧ Wr (Bool.false = Bool.false) ∧ Wr (x.snd.snd.snd.snd.fst = x.snd.snd.snd.snd.fst) ∧ Wr (x.snd.snd.snd.snd.snd.fst = x.snd.snd.snd.snd.snd.fst) ∧ Wr (x_1.snd ++ (List.getD
  x.fst.snd.snd.snd.fst (Int.toNat x_1.fst) (0 : Int), (-1 : Int), x.snd.snd.fst, ()) :: nilL (Int × Int × Int × Unit) = x_1.snd ++ (List.getD x.fst.snd.snd.snd.fst (Int.toNat x_1.fst) (0 : Int), (-1 : Int),
  x.snd.snd.fst, ()) :: nilL (Int × Int × Int × Unit)) ∧ Wr (x.fst.fst.fst = x.fst.fst.fst) ∧ Wr (x.fst.fst.snd.fst = x.fst.fst.snd.fst) ∧ Wr (x.fst.fst.snd.snd.fst = x.fst.fst.snd.snd.fst) ∧ Wr (x.fst.fst.snd.snd.snd.fst
  = x.fst.fst.snd.snd.snd.fst) ∧ Wr (x.fst.fst.snd.snd.snd.snd.fst = x.fst.fst.snd.snd.snd.snd.fst) ∧ Wr (x.fst.fst.snd.snd.snd.snd.snd.fst = x.fst.fst.snd.snd.snd.snd.snd.fst) ∧ Wr (x.fst.fst.snd.snd.snd.snd.snd.snd.fst
  = x.fst.fst.snd.snd.snd.snd.snd.snd.fst) ∧ Wr (x.fst.fst.snd.snd.snd.snd.snd.snd.snd.fst = x.fst.fst.snd.snd.snd.snd.snd.snd.snd.fst) ∧ Wr (x.fst.fst.snd.snd.snd.snd.snd.snd.snd.snd.fst =
  x.fst.fst.snd.snd.snd.snd.snd.snd.snd.snd.fst) ∧ Wr (x.fst.snd.fst = x.fst.snd.fst) ∧ Wr (x.fst.snd.snd.fst = x.fst.snd.snd.fst) ∧ Wr (x.fst.snd.snd.snd.fst = x.fst.snd.snd.snd.fst) ∧ Wr (x.fst.snd.snd.snd.snd.fst.fst =
  x.fst.snd.snd.snd.snd.fst.fst) ∧ Wr (x.fst.snd.snd.snd.snd.fst.snd.fst = x.fst.snd.snd.snd.snd.fst.snd.fst) ∧ Wr (x.fst.snd.snd.snd.snd.fst.snd.snd.fst = x.fst.snd.snd.snd.snd.fst.snd.snd.fst) ∧ Wr
  (x.fst.snd.snd.snd.snd.snd.fst = x.fst.snd.snd.snd.snd.snd.fst) ∧ Wr (x.fst.snd.snd.snd.snd.snd.snd.fst = x.fst.snd.snd.snd.snd.snd.snd.fst) ∧ Wr (Bool.false = Bool.false) ∧ Wr (Bool.false = Bool.false) ∧ Wr ((0 : Int)
  = (0 : Int)) ∧ Wr ((0 : Int) = (0 : Int)) ∧ Wr ((0 : Int) = (0 : Int)) ∧ Wr ((0 : Int) = (0 : Int)) ∧ Wr ((0 : Int) = (0 : Int)) ∧ Wr ((0 : Int) = (0 : Int)) ∧ Wr ((0 : Int) = (0 : Int)) ∧ Wr ((0 : Int) = (0 : Int)) ∧
  Wr ((0 : Int) = (0 : Int)) ∧ Wr ((0 : Int) = (0 : Int)) ∧ Wr (Bool.false = Bool.false) ∧ Wr ((0 : Int) = (0 : Int)) ∧ Wr (Bool.false = Bool.false) ∧ Wr (x.fst.fst.fst = x.fst.fst.fst) ∧ Wr (x.fst.fst.snd.fst =
  x.fst.fst.snd.fst) ∧ Wr (x.fst.fst.snd.snd.fst = x.fst.fst.snd.snd.fst) ∧ Wr (x.fst.fst.snd.snd.snd.fst = x.fst.fst.snd.snd.snd.fst) ∧ Wr (x.fst.fst.snd.snd.snd.snd.fst = x.fst.fst.snd.snd.snd.snd.fst) ∧ Wr
  (x.fst.fst.snd.snd.snd.snd.snd.fst = x.fst.fst.snd.snd.snd.snd.snd.fst) ∧ Wr (x.fst.fst.snd.snd.snd.snd.snd.snd.fst = x.fst.fst.snd.snd.snd.snd.snd.snd.fst) ∧ Wr (x.fst.fst.snd.snd.snd.snd.snd.snd.snd.fst =
  x.fst.fst.snd.snd.snd.snd.snd.snd.snd.fst) ∧ Wr (x.fst.fst.snd.snd.snd.snd.snd.snd.snd.snd.fst = x.fst.fst.snd.snd.snd.snd.snd.snd.snd.snd.fst) ∧ Wr (x.fst.snd.fst = x.fst.snd.fst) ∧ Wr (x.fst.snd.snd.fst =
  x.fst.snd.snd.fst) ∧ Wr (x.fst.snd.snd.snd.fst = x.fst.snd.snd.snd.fst) ∧ Wr (x.fst.snd.snd.snd.snd.fst.fst = x.fst.snd.snd.snd.snd.fst.fst) ∧ Wr (x.fst.snd.snd.snd.snd.fst.snd.fst = x.fst.snd.snd.snd.snd.fst.snd.fst) ∧
  Wr (x.fst.snd.snd.snd.snd.fst.snd.snd.fst = x.fst.snd.snd.snd.snd.fst.snd.snd.fst) ∧ Wr (x.fst.snd.snd.snd.snd.snd.fst = x.fst.snd.snd.snd.snd.snd.fst) ∧ Wr (x.fst.snd.snd.snd.snd.snd.snd.fst =
  x.fst.snd.snd.snd.snd.snd.snd.fst)) (Wr (Bool.true = Bool.true) ∧ Wr ((!x.fst.snd.snd.snd.snd.snd.snd.fst) = Bool.true → Bool.true = Bool.true) ∧ ((x.fst.fst, x.fst.snd.fst, x.fst.snd.snd.fst, nilL Int, partF (endF
  x.fst.snd.snd.snd.snd.fst) (↑(List.length x.fst.snd.snd.snd.fst) : Int), noteS x.fst.snd.snd.snd.snd.snd.fst, x.fst.snd.snd.snd.snd.snd.snd), (x_1.snd, nilL Int, !x.fst.snd.snd.snd.snd.snd.snd.fst && startsF (partF
  (endF x.fst.snd.snd.snd.snd.fst) (↑(List.length x.fst.snd.snd.snd.fst) : Int)), Bool.false || partC (endF x.fst.snd.snd.snd.snd.fst) (↑(List.length x.fst.snd.snd.snd.fst) : Int), ()), ()) = (outB (toldD x.fst x.snd.fst
  x.snd.snd.fst x.snd.snd.snd.snd.fst x.snd.snd.snd.snd.snd.fst), outT (toldD x.fst x.snd.fst x.snd.snd.fst x.snd.snd.snd.snd.fst x.snd.snd.snd.snd.snd.fst), ()))) (Wr ((!x.fst.snd.snd.snd.snd.snd.snd.fst) = Bool.true →
  Bool.true = Bool.true) ∧ ((x.fst.fst, x.fst.snd.fst, x.fst.snd.snd.fst, x.fst.snd.snd.snd.fst, endF x.fst.snd.snd.snd.snd.fst, noteS x.fst.snd.snd.snd.snd.snd.fst, x.fst.snd.snd.snd.snd.snd.snd), (nilL (Int × Int × Int
  × Unit), nilL Int, !x.fst.snd.snd.snd.snd.snd.snd.fst && startsF (endF x.fst.snd.snd.snd.snd.fst), Bool.false, ()), ()) = (outB (toldD x.fst x.snd.fst x.snd.snd.fst x.snd.snd.snd.snd.fst x.snd.snd.snd.snd.snd.fst), outT
  (toldD x.fst x.snd.fst x.snd.snd.fst x.snd.snd.snd.snd.fst x.snd.snd.snd.snd.snd.fst), ()))))) := by kernel_rfl
theorem v14_eq : vcFn g14 300 Try.f14 cClose = ( ∀ (x : ((Int × Int × Int × Int × Int × Int × Int × Int × Int × Unit) × List (Int × Int × Unit) × List Int × List Int × (Int × Bool × Int × Unit) × List ((Int × (Int × Int × Int × Int × Int × Int × Int × Int × Unit) × Int
  × Unit) × Int × Unit) × Bool × Unit) × Int × Unit), Wr (szB x.fst = Bool.true) → bcase x.fst.snd.snd.snd.snd.snd.snd.fst (Wr (List.length ((x.snd.fst, (-1 : Int), (240 : Int), ()) :: nilL (Int × Int × Int × Unit)) * (24
  : Nat) ≤ (140737488355328 : Nat)) ∧ Wr ((!x.fst.snd.snd.snd.snd.snd.snd.fst) = Bool.true → Bool.true = Bool.true) ∧ (x.fst, ((x.snd.fst, (-1 : Int), (240 : Int), ()) :: nilL (Int × Int × Int × Unit), nilL Int,
  !x.fst.snd.snd.snd.snd.snd.snd.fst && startsF x.fst.snd.snd.snd.snd.fst, Bool.false, ()), ()) = (outB (closeD x.fst x.snd.fst), outT (closeD x.fst x.snd.fst), ())) ((Wr (AlI x.fst.snd.snd.snd.fst (240 : Int) (0 : Int)
  (nilL (Int × Int × Int × Unit))) ∧ Wr ((0 : Int) = (0 : Int)) ∧ Wr ((240 : Int) = (240 : Int)) ∧ Wr (x.fst.snd.snd.snd.fst = x.fst.snd.snd.snd.fst) ∧ Wr ((↑(List.length x.fst.snd.snd.snd.fst) : Int) = (↑(List.length
  x.fst.snd.snd.snd.fst) : Int)) ∧ Wr (x.fst.fst.fst = x.fst.fst.fst) ∧ Wr (x.fst.fst.snd.fst = x.fst.fst.snd.fst) ∧ Wr (x.fst.fst.snd.snd.fst = x.fst.fst.snd.snd.fst) ∧ Wr (x.fst.fst.snd.snd.snd.fst =
  x.fst.fst.snd.snd.snd.fst) ∧ Wr (x.fst.fst.snd.snd.snd.snd.fst = x.fst.fst.snd.snd.snd.snd.fst) ∧ Wr (x.fst.fst.snd.snd.snd.snd.snd.fst = x.fst.fst.snd.snd.snd.snd.snd.fst) ∧ Wr (x.fst.fst.snd.snd.snd.snd.snd.snd.fst =
  x.fst.fst.snd.snd.snd.snd.snd.snd.fst) ∧ Wr (x.fst.fst.snd.snd.snd.snd.snd.snd.snd.fst = x.fst.fst.snd.snd.snd.snd.snd.snd.snd.fst) ∧ Wr (x.fst.fst.snd.snd.snd.snd.snd.snd.snd.snd.fst =
  x.fst.fst.snd.snd.snd.snd.snd.snd.snd.snd.fst) ∧ Wr (x.fst.snd.fst = x.fst.snd.fst) ∧ Wr (x.fst.snd.snd.fst = x.fst.snd.snd.fst) ∧ Wr (x.fst.snd.snd.snd.fst = x.fst.snd.snd.snd.fst) ∧ Wr (x.fst.snd.snd.snd.snd.fst.fst =
  x.fst.snd.snd.snd.snd.fst.fst) ∧ Wr (x.fst.snd.snd.snd.snd.fst.snd.fst = x.fst.snd.snd.snd.snd.fst.snd.fst) ∧ Wr (x.fst.snd.snd.snd.snd.fst.snd.snd.fst = x.fst.snd.snd.snd.snd.fst.snd.snd.fst) ∧ Wr
  (x.fst.snd.snd.snd.snd.snd.fst = x.fst.snd.snd.snd.snd.snd.fst) ∧ Wr (x.fst.snd.snd.snd.snd.snd.snd.fst = x.fst.snd.snd.snd.snd.snd.snd.fst) ∧ Wr (Bool.false = Bool.false) ∧ Wr (Bool.false = Bool.false) ∧ Wr ((0 : Int)
  = (0 : Int)) ∧ Wr (nilL (Int × Int × Int × Unit) = nilL (Int × Int × Int × Unit)) ∧ Wr (x.fst.fst.fst = x.fst.fst.fst) ∧ Wr (x.fst.fst.snd.fst = x.fst.fst.snd.fst) ∧ Wr (x.fst.fst.snd.snd.fst = x.fst.fst.snd.snd.fst) ∧
  Wr (x.fst.fst.snd.snd.snd.fst = x.fst.fst.snd.snd.snd.fst) ∧ Wr (x.fst.fst.snd.snd.snd.snd.fst = x.fst.fst.snd.snd.snd.snd.fst) ∧ Wr (x.fst.fst.snd.snd.snd.snd.snd.fst = x.fst.fst.snd.snd.snd.snd.snd.fst) ∧ Wr
  (x.fst.fst.snd.snd.snd.snd.snd.snd.fst = x.fst.fst.snd.snd.snd.snd.snd.snd.fst) ∧ Wr (x.fst.fst.snd.snd.snd.snd.snd.snd.snd.fst = x.fst.fst.snd.snd.snd.snd.snd.snd.snd.fst) ∧ Wr
  (x.fst.fst.snd.snd.snd.snd.snd.snd.snd.snd.fst = x.fst.fst.snd.snd.snd.snd.snd.snd.snd.snd.fst) ∧ Wr (x.fst.snd.fst = x.fst.snd.fst) ∧ Wr (x.fst.snd.snd.fst = x.fst.snd.snd.fst) ∧ Wr (x.fst.snd.snd.snd.fst =
  x.fst.snd.snd.snd.fst) ∧ Wr (x.fst.snd.snd.snd.snd.fst.fst = x.fst.snd.snd.snd.snd.fst.fst) ∧ Wr (x.fst.snd.snd.snd.snd.fst.snd.fst = x.fst.snd.snd.snd.snd.fst.snd.fst) ∧ Wr (x.fst.snd.snd.snd.snd.fst.snd.snd.fst =
  x.fst.snd.snd.snd.snd.fst.snd.snd.fst) ∧ Wr (x.fst.snd.snd.snd.snd.snd.fst = x.fst.snd.snd.snd.snd.snd.fst) ∧ Wr (x.fst.snd.snd.snd.snd.snd.snd.fst = x.fst.snd.snd.snd.snd.snd.snd.fst) ∧ Wr (Bool.false = Bool.false) ∧
  Wr (Bool.false = Bool.false) ∧ Wr ((0 : Int) = (0 : Int)) ∧ Wr ((0 : Int) = (0 : Int)) ∧ Wr ((0 : Int) = (0 : Int)) ∧ Wr ((0 : Int) = (0 : Int)) ∧ Wr ((0 : Int) = (0 : Int)) ∧ Wr ((0 : Int) = (0 : Int)) ∧ Wr ((0 : Int)
  = (0 : Int)) ∧ Wr ((0 : Int) = (0 : Int)) ∧ Wr ((0 : Int) = (0 : Int)) ∧ Wr ((0 : Int) = (0 : Int)) ∧ Wr (Bool.false = Bool.false) ∧ Wr ((0 : Int) = (0 : Int)) ∧ Wr (Bool.false = Bool.false) ∧ Wr (x.fst.fst.fst =
  x.fst.fst.fst) ∧ Wr (x.fst.fst.snd.fst = x.fst.fst.snd.fst) ∧ Wr (x.fst.fst.snd.snd.fst = x.fst.fst.snd.snd.fst) ∧ Wr (x.fst.fst.snd.snd.snd.fst = x.fst.fst.snd.snd.snd.fst) ∧ Wr (x.fst.fst.snd.snd.snd.snd.fst =
  x.fst.fst.snd.snd.snd.snd.fst) ∧ Wr (x.fst.fst.snd.snd.snd.snd.snd.fst = x.fst.fst.snd.snd.snd.snd.snd.fst) ∧ Wr (x.fst.fst.snd.snd.snd.snd.snd.snd.fst = x.fst.fst.snd.snd.snd.snd.snd.snd.fst) ∧ Wr
  (x.fst.fst.snd.snd.snd.snd.snd.snd.snd.fst = x.fst.fst.snd.snd.snd.snd.snd.snd.snd.fst) ∧ Wr (x.fst.fst.snd.snd.snd.snd.snd.snd.snd.snd.fst = x.fst.fst.snd.snd.snd.snd.snd.snd.snd.snd.fst) ∧ Wr (x.fst.snd.fst =
  x.fst.snd.fst) ∧ Wr (x.fst.snd.snd.fst = x.fst.snd.snd.fst) ∧ Wr (x.fst.snd.snd.snd.fst = x.fst.snd.snd.snd.fst) ∧ Wr (x.fst.snd.snd.snd.snd.fst.fst = x.fst.snd.snd.snd.snd.fst.fst) ∧ Wr
  (x.fst.snd.snd.snd.snd.fst.snd.fst = x.fst.snd.snd.snd.snd.fst.snd.fst) ∧ Wr (x.fst.snd.snd.snd.snd.fst.snd.snd.fst = x.fst.snd.snd.snd.snd.fst.snd.snd.fst) ∧ Wr (x.fst.snd.snd.snd.snd.snd.fst =
  x.fst.snd.snd.snd.snd.snd.fst) ∧ Wr (x.fst.snd.snd.snd.snd.snd.snd.fst = x.fst.snd.snd.snd.snd.snd.snd.fst)) ∧ ∀ (x_1 : Int × List (Int × Int × Int × Unit)), Wr (AlI x.fst.snd.snd.snd.fst (240 : Int) x_1.fst x_1.snd) →
  bcase (Decidable.decide (x_1.fst < (↑(List.length x.fst.snd.snd.snd.fst) : Int))) (Wr ((0 : Int) ≤ x_1.fst) ∧ Wr (x_1.fst < (↑(List.length x.fst.snd.snd.snd.fst) : Int)) ∧ Wr (Bool.true = Bool.true) ∧ Wr ((List.length
  x_1.snd + List.length ((List.getD x.fst.snd.snd.snd.fst (Int.toNat x_1.fst) (0 : Int), (-1 : Int), (240 : Int), ()) :: nilL (Int × Int × Int × Unit))) * (24 : Nat) ≤ (140737488355328 : Nat)) ∧ Wr (AlI
  x.fst.snd.snd.snd.fst (240 : Int) (IntKind.wrap IntKind.i64 (x_1.fst + (1 : Int))) (x_1.snd ++ (List.getD x.fst.snd.snd.snd.fst (Int.toNat x_1.fst) (0 : Int), (-1 : Int), (240 : Int), ()) :: nilL (Int × Int × Int ×
  Unit))) ∧ Wr (List.length x.fst.snd.snd.snd.fst - Int.toNat (IntKind.wrap IntKind.i64 (x_1.fst + (1 : Int))) < List.length x.fst.snd.snd.snd.fst - Int.toNat x_1.fst) ∧ Wr (IntKind.wrap IntKind.i64 (x_1.fst + (1 : Int))
  = IntKind.wrap IntKind.i64 (x_1.fst + (1 : Int))) ∧ Wr ((240 : Int) = (240 : Int)) ∧ Wr (x.fst.snd.snd.snd.fst = x.fst.snd.snd.snd.fst) ∧ Wr ((↑(List.length x.fst.snd.snd.snd.fst) : Int) = (↑(List.length
  x.fst.snd.snd.snd.fst) : Int)) ∧ Wr (x.fst.fst.fst = x.fst.fst.fst) ∧ Wr (x.fst.fst.snd.fst = x.fst.fst.snd.fst) ∧ Wr (x.fst.fst.snd.snd.fst = x.fst.fst.snd.snd.fst) ∧ Wr (x.fst.fst.snd.snd.snd.fst =
  x.fst.fst.snd.snd.snd.fst) ∧ Wr (x.fst.fst.snd.snd.snd.snd.fst = x.fst.fst.snd.snd.snd.snd.fst) ∧ Wr (x.fst.fst.snd.snd.snd.snd.snd.fst = x.fst.fst.snd.snd.snd.snd.snd.fst) ∧ Wr (x.fst.fst.snd.snd.snd.snd.snd.snd.fst =
  x.fst.fst.snd.snd.snd.snd.snd.snd.fst) ∧ Wr (x.fst.fst.snd.snd.snd.snd.snd.snd.snd.fst = x.fst.fst.snd.snd.snd.snd.snd.snd.snd.fst) ∧ Wr (x.fst.fst.snd.snd.snd.snd.snd.snd.snd.snd.fst =
  x.fst.fst.snd.snd.snd.snd.snd.snd.snd.snd.fst) ∧ Wr (x.fst.snd.fst = x.fst.snd.fst) ∧ Wr (x.fst.snd.snd.fst = x.fst.snd.snd.fst) ∧ Wr (x.fst.snd.snd.snd.fst = x.fst.snd.snd.snd.fst) ∧ Wr (x.fst.snd.snd.snd.snd.fst.fst =
  x.fst.snd.snd.snd.snd.fst.fst) ∧ Wr (x.fst.snd.snd.snd.snd.fst.snd.fst = x.fst.snd.snd.snd.snd.fst.snd.fst) ∧ Wr (x.fst.snd.snd.snd.snd.fst.snd.snd.fst = x.fst.snd.snd.snd.snd.fst.snd.snd.fst) ∧ Wr
  (x.fst.snd.snd.snd.snd.snd.fst = x.fst.snd.snd.snd.snd.snd.fst) ∧ Wr (x.fst.snd.snd.snd.snd.snd.snd.fst = x.fst.snd.snd.snd.snd.snd.snd.fst) ∧ Wr (Bool.false = Bool.false) ∧ Wr (Bool.false = Bool.false) ∧ Wr ((0 : Int)
  = (0 : Int)) ∧ Wr (x_1.snd ++ (List.getD x.fst.snd.snd.snd.fst (Int.toNat x_1.fst) (0 : Int), (-1 : Int), (240 : Int), ()) :: nilL (Int × Int × Int × Unit) = x_1.snd ++ (List.getD x.fst.snd.snd.snd.fst (Int.toNat
  x_1.fst) (0 : Int), (-1 : Int), (240 : Int), ()) :: nilL (Int × Int × Int × Unit)) ∧ Wr (x.fst.fst.fst = x.fst.fst.fst) ∧ Wr (x.fst.fst.snd.fst = x.fst.fst.snd.fst) ∧ Wr (x.fst.fst.snd.snd.fst = x.fst.fst.snd.snd.fst) ∧
  Wr (x.fst.fst.snd.snd.snd.fst = x.fst.fst.snd.snd.snd.fst) ∧ Wr (x.fst.fst.snd.snd.snd.snd.fst = x.fst.fst.snd.snd.snd.snd.fst) ∧ Wr (x.fst.fst.snd.snd.snd.snd.snd.fst = x.fst.fst.snd.snd.snd.snd.snd.fst) ∧ Wr
  (x.fst.fst.snd.snd.snd.snd.snd.snd.fst = x.fst.fst.snd.snd.snd.snd.snd.snd.fst) ∧ Wr (x.fst.fst.snd.snd.snd.snd.snd.snd.snd.fst = x.fst.fst.snd.snd.snd.snd.snd.snd.snd.fst) ∧ Wr
  (x.fst.fst.snd.snd.snd.snd.snd.snd.snd.snd.fst = x.fst.fst.snd.snd.snd.snd.snd.snd.snd.snd.fst) ∧ Wr (x.fst.snd.fst = x.fst.snd.fst) ∧ Wr (x.fst.snd.snd.fst = x.fst.snd.snd.fst) ∧ Wr (x.fst.snd.snd.snd.fst =
  x.fst.snd.snd.snd.fst) ∧ Wr (x.fst.snd.snd.snd.snd.fst.fst = x.fst.snd.snd.snd.snd.fst.fst) ∧ Wr (x.fst.snd.snd.snd.snd.fst.snd.fst = x.fst.snd.snd.snd.snd.fst.snd.fst) ∧ Wr (x.fst.snd.snd.snd.snd.fst.snd.snd.fst =
  x.fst.snd.snd.snd.snd.fst.snd.snd.fst) ∧ Wr (x.fst.snd.snd.snd.snd.snd.fst = x.fst.snd.snd.snd.snd.snd.fst) ∧ Wr (x.fst.snd.snd.snd.snd.snd.snd.fst = x.fst.snd.snd.snd.snd.snd.snd.fst) ∧ Wr (Bool.false = Bool.false) ∧
  Wr (Bool.false = Bool.false) ∧ Wr ((0 : Int) = (0 : Int)) ∧ Wr ((0 : Int) = (0 : Int)) ∧ Wr ((0 : Int) = (0 : Int)) ∧ Wr ((0 : Int) = (0 : Int)) ∧ Wr ((0 : Int) = (0 : Int)) ∧ Wr ((0 : Int) = (0 : Int)) ∧ Wr ((0 : Int)
  = (0 : Int)) ∧ Wr ((0 : Int) = (0 : Int)) ∧ Wr ((0 : Int) = (0 : Int)) ∧ Wr ((0 : Int) = (0 : Int)) ∧ Wr (Bool.false = Bool.false) ∧ Wr ((0 : Int) = (0 : Int)) ∧ Wr (Bool.false = Bool.false) ∧ Wr (x.fst.fst.fst =
  x.fst.fst.fst) ∧ Wr (x.fst.fst.snd.fst = x.fst.fst.snd.fst) ∧ Wr (x.fst.fst.snd.snd.fst = x.fst.fst.snd.snd.fst) ∧ Wr (x.fst.fst.snd.snd.snd.fst = x.fst.fst.snd.snd.snd.fst) ∧ Wr (x.fst.fst.snd.snd.snd.snd.fst =
  x.fst.fst.snd.snd.snd.snd.fst) ∧ Wr (x.fst.fst.snd.snd.snd.snd.snd.fst = x.fst.fst.snd.snd.snd.snd.snd.fst) ∧ Wr (x.fst.fst.snd.snd.snd.snd.snd.snd.fst = x.fst.fst.snd.snd.snd.snd.snd.snd.fst) ∧ Wr
  (x.fst.fst.snd.snd.snd.snd.snd.snd.snd.fst = x.fst.fst.snd.snd.snd.snd.snd.snd.snd.fst) ∧ Wr (x.fst.fst.snd.snd.snd.snd.snd.snd.snd.snd.fst = x.fst.fst.snd.snd.snd.snd.snd.snd.snd.snd.fst) ∧ Wr (x.fst.snd.fst =
  x.fst.snd.fst) ∧ Wr (x.fst.snd.snd.fst = x.fst.snd.snd.fst) ∧ Wr (x.fst.snd.snd.snd.fst = x.fst.snd.snd.snd.fst) ∧ Wr (x.fst.snd.snd.snd.snd.fst.fst = x.fst.snd.snd.snd.snd.fst.fst) ∧ Wr
  (x.fst.snd.snd.snd.snd.fst.snd.fst = x.fst.snd.snd.snd.snd.fst.snd.fst) ∧ Wr (x.fst.snd.snd.snd.snd.fst.snd.snd.fst = x.fst.snd.snd.snd.snd.fst.snd.snd.fst) ∧ Wr (x.fst.snd.snd.snd.snd.snd.fst =
  x.fst.snd.snd.snd.snd.snd.fst) ∧ Wr (x.fst.snd.snd.snd.snd.snd.snd.fst = x.fst.snd.snd.snd.snd.snd.snd.fst)) (Wr (Bool.true = Bool.true) ∧ Wr (szB (x.fst.fst, x.fst.snd.fst, x.fst.snd.snd.fst, nilL Int, partF
  x.fst.snd.snd.snd.snd.fst (↑(List.length x.fst.snd.snd.snd.fst) : Int), x.fst.snd.snd.snd.snd.snd) = Bool.true) ∧ Wr (List.length (ownsL (x.fst.fst, x.fst.snd.fst, x.fst.snd.snd.fst, nilL Int, partF
  x.fst.snd.snd.snd.snd.fst (↑(List.length x.fst.snd.snd.snd.fst) : Int), x.fst.snd.snd.snd.snd.snd)) * (8 : Nat) ≤ (140737488355328 : Nat)) ∧ Wr ((List.length x_1.snd + List.length ((x.snd.fst, (-1 : Int), (0 : Int), ())
  :: nilL (Int × Int × Int × Unit))) * (24 : Nat) ≤ (140737488355328 : Nat)) ∧ Wr ((!Bool.true) = Bool.true → Bool.true = Bool.true) ∧ ((x.fst.fst, nilL (Int × Int × Unit), nilL Int, nilL Int, partF
  x.fst.snd.snd.snd.snd.fst (↑(List.length x.fst.snd.snd.snd.fst) : Int), x.fst.snd.snd.snd.snd.snd.fst, Bool.true, ()), (x_1.snd ++ (x.snd.fst, (-1 : Int), (0 : Int), ()) :: nilL (Int × Int × Int × Unit), ownsL
  (x.fst.fst, x.fst.snd.fst, x.fst.snd.snd.fst, nilL Int, partF x.fst.snd.snd.snd.snd.fst (↑(List.length x.fst.snd.snd.snd.fst) : Int), x.fst.snd.snd.snd.snd.snd), !Bool.true && startsF (partF x.fst.snd.snd.snd.snd.fst
  (↑(List.length x.fst.snd.snd.snd.fst) : Int)), Bool.false || partC x.fst.snd.snd.snd.snd.fst (↑(List.length x.fst.snd.snd.snd.fst) : Int), ()), ()) = (outB (closeD x.fst x.snd.fst), outT (closeD x.fst x.snd.fst), ())))) := by kernel_rfl
end Go.Proofs.Ytdkcgcgefgeooaa.Bk
set_option linter.all false
namespace Go.Proofs.Ytdkcgcgefgeooaa.Bk
open Go Go.Eng Go.RowKit
set_option maxRecDepth 100000
set_option maxHeartbeats 16000000
theorem AlI.zero (l : List Int) (e : Int) : AlI l e 0 [] := ⟨by omega, by omega, rfl⟩
theorem AlI.succ {l : List Int} {e i : Int} {o : List Rp} (h : AlI l e i o) (hl : l.length ≤ 1000000) (hi : i < l.length) :
    AlI l e (IntKind.wrap .i64 (i + 1)) (o ++ [(l.getD i.toNat 0, -1, e, ())]) ∧ l.length - (IntKind.wrap .i64 (i + 1)).toNat < l.length - i.toNat := by
  have h0 := h.i0
  have ew : IntKind.wrap .i64 (i + 1) = i + 1 := wrap_id (by omega) (by omega)
  rw [ew]
  refine ⟨⟨by omega, by omega, ?_⟩, by omega⟩
  rw [take_succ l i 0 h0 hi, failL, List.map_append, h.a]
  rfl
theorem AlI.len {l : List Int} {e i : Int} {o : List Rp} (h : AlI l e i o) : o.length ≤ l.length := by rw [h.a, failL, List.length_map, List.length_take]; omega
theorem AlI.done {l : List Int} {e i : Int} {o : List Rp} (h : AlI l e i o) (hi : ¬ i < l.length) : o = failL l e := by
  rw [h.a, List.take_of_length_le (by have := h.i0; omega)]
theorem v17 : Vc g17 300 Try.f17 cTold := by
  constructor
  rw [v17_eq]
  simp only [Wr_iff, bcase_iff, true_and, and_true, decide_eq_true_eq, decide_eq_false_iff_not, Bool.and_eq_true, Bool.and_eq_false_iff, Bool.or_eq_true, Bool.or_eq_false_iff, Bool.not_eq_true', Bool.not_eq_false', Option.map_some, Option.getD_some, Option.isSome_some, Option.isSome_map, imp_self, nilL, noneO]
  rintro ⟨⟨cf, id, le, wa, fl, sc, cl, ⟨⟩⟩, sock, er, bad, now, dead, ⟨⟩⟩ hb
  dsimp only at *
  obtain ⟨⟨hs, hd⟩, hbad⟩ := hb
  rw [szB_iff] at hs
  dsimp only at hs
  simp only [szI, decide_eq_true_eq] at hd
  refine ⟨⟨by omega, hbad⟩, ?_⟩
  refine ⟨fun h0 => ⟨fun hc => ⟨fun hh => ⟨by simp, fun _ => trivial, ?_⟩, fun hh => ⟨fun _ => ⟨fun hw => ?_, fun hw => ⟨fun hcp => ⟨by simp; omega, by simp, fun _ => trivial, ?_⟩, fun hcp => ⟨by simp, fun _ => trivial, ?_⟩⟩⟩, fun hn => absurd h0 hn⟩⟩, fun hc => ⟨by simp, fun _ => trivial, ?_⟩⟩, fun h0 => ⟨fun hz => absurd hz h0, fun _ => ⟨fun h1 => ⟨AlI.zero _ _, fun ⟨k, o⟩ hu => ⟨fun hi => ⟨hu.i0, hi, ?_, hu.succ hs.2.2.1 hi⟩, fun hi => ⟨fun _ => trivial, ?_⟩⟩⟩, fun h1 => ⟨fun _ => trivial, ?_⟩⟩⟩⟩
  · subst h0; subst hc
    have hh2 : hasN dead sock = true := hh.resolve_left (by decide)
    have e : toldD (cf, id, le, wa, fl, sc, false, ()) sock 0 now dead = (mkB cf id le wa (endF fl) (noteS sc) false, [], [sock], false) := by unfold toldD; dsimp only; rw [hh2]; rfl
    rw [e]; rfl
  · subst h0; subst hc
    have hh2 : hasN dead sock = false := hh.resolve_left (by decide)
    have e : toldD (cf, id, le, wa, fl, sc, false, ()) sock 0 now dead = fileD (mkB cf id le wa (endF fl) (noteS sc) false) [] [] sock now := by unfold toldD; dsimp only; rw [hh2]; rfl
    rw [e]
    cases wa with
    | nil => exact absurd hw (by simp)
    | cons w ws =>
      simp only [List.length_cons] at hs hw ⊢
      refine ⟨by omega, by omega, by omega, by omega, by omega, by simp; omega, by simp; omega, by simp, by simp, fun _ => trivial, ?_⟩
      rw [fileW]
      simp [outB, outT, endsB, mkB]
  · subst h0; subst hc
    have hh2 : hasN dead sock = false := hh.resolve_left (by decide)
    have e : toldD (cf, id, le, wa, fl, sc, false, ()) sock 0 now dead = fileD (mkB cf id le wa (endF fl) (noteS sc) false) [] [] sock now := by unfold toldD; dsimp only; rw [hh2]; rfl
    rw [e]
    have hw0 : wa = [] := List.length_eq_zero_iff.1 (by omega)
    subst hw0
    rw [fileI hcp]; rfl
  · subst h0; subst hc
    have hh2 : hasN dead sock = false := hh.resolve_left (by decide)
    have e : toldD (cf, id, le, wa, fl, sc, false, ()) sock 0 now dead = fileD (mkB cf id le wa (endF fl) (noteS sc) false) [] [] sock now := by unfold toldD; dsimp only; rw [hh2]; rfl
    rw [e]
    have hw0 : wa = [] := List.length_eq_zero_iff.1 (by omega)
    subst hw0
    rw [fileS hcp]; rfl
  · subst h0; subst hc
    have e : toldD (cf, id, le, wa, fl, sc, true, ()) sock 0 now dead = (mkB cf id le wa (endF fl) (noteS sc) true, [], [sock], false) := by unfold toldD; dsimp only; rw [Bool.true_or]; rfl
    rw [e]; rfl
  · have := hu.len
    simp only [List.length_cons, List.length_nil]
    dsimp only at this ⊢
    omega
  · have ho := hu.done hi
    dsimp only at ho
    subst ho
    have e : toldD (cf, id, le, wa, fl, sc, cl, ()) sock er now dead = (mkB cf id le [] (partF (endF fl) (wa.length : Int)) (noteS sc) cl, failL wa er, [], partC (endF fl) (wa.length : Int)) := by
      unfold toldD; rw [decide_eq_false h0, decide_eq_true (show er ≠ 191 from h1), Bool.false_and]; rfl
    rw [e]; rfl
  · have e : toldD (cf, id, le, wa, fl, sc, cl, ()) sock er now dead = (mkB cf id le wa (endF fl) (noteS sc) cl, [], [], false) := by
      unfold toldD; rw [decide_eq_false h0, decide_eq_false (show ¬ er ≠ 191 from fun h => h h1), Bool.false_and]; rfl
    rw [e]; rfl
theorem v14 : Vc g14 300 Try.f14 cClose := by
  constructor
  rw [v14_eq]
  simp only [Wr_iff, bcase_iff, true_and, and_true, decide_eq_true_eq, decide_eq_false_iff_not, Bool.and_eq_true, Bool.and_eq_false_iff, Bool.or_eq_true, Bool.or_eq_false_iff, Bool.not_eq_true', Bool.not_eq_false', Option.map_some, Option.getD_some, Option.isSome_some, Option.isSome_map, imp_self, nilL, noneO]
  rintro ⟨⟨cf, id, le, wa, fl, sc, cl, ⟨⟩⟩, c, ⟨⟩⟩ hb
  dsimp only at *
  have hs := hb
  rw [szB_iff] at hs
  dsimp only at hs
  refine ⟨fun hc => ⟨by simp, fun _ => trivial, ?_⟩, fun hc => ⟨AlI.zero _ _, fun ⟨k, o⟩ hu => ⟨fun hi => ⟨hu.i0, hi, ?_, hu.succ hs.2.2.1 hi⟩, fun hi => ?_⟩⟩⟩
  · subst hc; rfl
  · have := hu.len
    simp only [List.length_cons, List.length_nil]
    dsimp only at this ⊢
    omega
  · subst hc
    have hl := hu.len
    have ho := hu.done hi
    dsimp only at ho hl ⊢
    have hpl : (partF fl (wa.length : Int)).2.2.1 ≤ 1152921504606846976 := by simp only [partF, partN]; omega
    refine ⟨(szB_iff _).2 ⟨hs.1, hs.2.1, by simp, hs.2.2.2.1, hpl⟩, ?_, ?_, ?_⟩
    · rw [owns_len]
      dsimp only
      omega
    · simp only [List.length_cons, List.length_nil]; omega
    · exact ⟨fun _ => trivial, by subst ho; rfl⟩
end Go.Proofs.Ytdkcgcgefgeooaa.Bk
namespace Go.Proofs.Ytdkcgcgefgeooaa.Bk
open Go Go.Eng 
set_option maxRecDepth 100000
theorem val17 : Valid Try.prog GW 17 cTold := mkValid gws Tb.mix Tb.tab_ok Tb.eqs_ok g17 rfl (allV_cons val48 (allV_cons val61 (allV_cons val65 (allV_cons val66 (allV_cons val70 (allV_cons val71 (allV_cons val78 (allV_cons val79 allV_nil)))))))) (allI_cons Try.func27 (by kernel_rfl) (allI_cons Try.func29 (by kernel_rfl) (allI_cons Try.func38 (by kernel_rfl) (allI_cons Try.func45 (by kernel_rfl) (allI_cons Try.func49 (by kernel_rfl) (allI_cons Try.func50 (by kernel_rfl) (allI_cons Try.func56 (by kernel_rfl) (allI_cons Try.func57 (by kernel_rfl) (allI_cons Try.func58 (by kernel_rfl) (allI_cons Try.func60 (by kernel_rfl) (allI_cons Try.func63 (by kernel_rfl) (allI_cons Try.func64 (by kernel_rfl) allI_nil)))))))))))) Try.func17 (by kernel_rfl) v17
theorem val14 : Valid Try.prog GW 14 cClose := mkValid gws Tb.mix Tb.tab_ok Tb.eqs_ok g14 rfl (allV_cons val13 (allV_cons val70 (allV_cons val71 allV_nil))) (allI_cons Try.func27 (by kernel_rfl) (allI_cons Try.func29 (by kernel_rfl) (allI_cons Try.func35 (by kernel_rfl) (allI_cons Try.func45 (by kernel_rfl) (allI_cons Try.func49 (by kernel_rfl) (allI_cons Try.func50 (by kernel_rfl) (allI_cons Try.func56 (by kernel_rfl) (allI_cons Try.func57 (by kernel_rfl) (allI_cons Try.func58 (by kernel_rfl) allI_nil))))))))) Try.func14 (by kernel_rfl) v14
end Go.Proofs.Ytdkcgcgefgeooaa.Bk
set_option maxRecDepth 100000
namespace Go.Proofs.Ytdkcgcgefgeooaa.Bk
open Go Go.Eng
/-! the laws -/
def cWakes : Contract := conD .unit (.cons .bool .unit) (fun _ => true) fun _ => (true, ())
def cQuitL : Contract := conD (.cons BookT (.cons I64 .unit)) (.cons .bool .unit) (fun _ => true) fun _ => (true, ())
def cCloseL : Contract := conD (.cons BookT (.cons I64 (.cons I64 (.cons I64 .unit)))) (.cons .bool .unit) (fun _ => true) fun _ => (true, ())
structure QuI (n : Int) (i : Int) : Prop where
  i0 : 0 ≤ i
  i1 : i ≤ n
def ptO (s : St) (k : Nat) : Nat := match Go.Eng.look s.env k with
  | .pt o _ => o
  | _ => 99999
def keepO (s : St) (ks : List Nat) : Go.Eng.Own := ks.map fun k => (ptO s k, lookO s.own (ptO s k))
def quA : LoopAnn where
  α := Int
  keep := [1, 2, 5, 6, 7]
  okeep := []
  nxt := 9500
  env := fun _ x => [(8, .dat I64 x)]
  own := fun s _ => keepO s [2, 6, 7]
  inv := fun s x => QuI ((cDat BookT s 6 0).out.2.2.2.1.length : Int) x
  mu := fun s x => (cDat BookT s 6 0).out.2.2.2.1.length - x.toNat
  pick := some fun _ s => (bDat I64 s 8).out
def clA : LoopAnn where
  α := Int
  keep := [1, 2, 3, 4, 9, 10]
  okeep := []
  nxt := 9500
  env := fun _ x => [(11, .dat I64 x)]
  own := fun s _ => keepO s [4, 9, 10]
  inv := fun s x => QuI ((cDat BookT s 4 0).out.2.2.2.1.length : Int) x
  mu := fun s x => (cDat BookT s 4 0).out.2.2.2.1.length - x.toNat
  pick := some fun _ s => (bDat I64 s 11).out
end Go.Proofs.Ytdkcgcgefgeooaa.Bk
namespace Go.Proofs.Ytdkcgcgefgeooaa.Bk
open Go Go.Eng 
set_option maxRecDepth 100000
noncomputable def g8 : Cfg := { tab := Tb.tab, cons := [(10, cCk), (11, cSameB), (13, cOwns), (15, cAsk), (16, cBack), (17, cTold), (18, cOver), (19, cNew), (26, cStarted)], inls := [], loops := [], cuts := [], unroll := false, arrs := [], keys := [] }
noncomputable def g3 : Cfg := { tab := Tb.tab, cons := [(6, cGreat), (7, cCk), (8, cWakes), (9, cQuit), (10, cCk), (11, cSameB), (12, (cSam I64)), (13, cOwns)], inls := [], loops := [(9, quA)], cuts := [], unroll := false, arrs := [], keys := [] }
end Go.Proofs.Ytdkcgcgefgeooaa.Bk

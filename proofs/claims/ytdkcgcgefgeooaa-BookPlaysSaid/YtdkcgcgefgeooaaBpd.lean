/-
  A text of mine, of several parts: Bk1Vc, BkP, BkShelf, BkLib, BkSeq, Bk1V, BkDef3, BktCfg, BktVc, BkPt, BktV, BkTop, Bk2Cfg, Bk2Vc, BkP2, Bk2V, Bk3Cfg.
-/
import Derived.Test.YtdkcgcgefgeooaaBpa
import Derived.Test.YtdkcgcgefgeooaaBpb
import Derived.Test.YtdkcgcgefgeooaaBpc
import Derived.Shelf.Sort.Plain
import Derived.Shelf.Slices.CompactI
import Derived.Shelf.Slices.Delete
import Derived.Shelf.Slices.In.SortNone
import Derived.Shelf.Slices.Empties
import Derived.Test.YtdkcgcgefgeooaaProg
import Derived.Sort.OwnSortedInts
import Derived.RangeFuncBox
import Derived.RangeFuncLeaves
import Derived.Shelf.Abstract
import Derived.WalkKit
import Derived.OwnWalkIn
import Derived.TacticsInMore
import Derived.LoopNIn
import Derived.LoopIn
import Derived.Maps.AppendAt
import Derived.Shelf.RegionOpenV
import Derived.WalkMore
import Derived.RangeFuncNested
set_option linter.all false
namespace Go.Proofs.Ytdkcgcgefgeooaa.Bk
open Go Go.Eng 
set_option maxRecDepth 100000
theorem v39_eq : vcFn g39 300 Try.f39 cOn = ( ∀ (x : (Int × Bool × Int × Unit) × Unit), Wr (Bool.true = Bool.true) → (Decidable.decide (x.fst.fst ≥ (0 : Int)), ()) = (onF x.fst, ())) := by kernel_rfl
theorem v46_eq : vcFn g46 300 Try.f46 cIdx.T = ( ∀ (x : List Int × Int × Unit), Wr (typedB (Ty.cons IL (Ty.cons I64 Ty.unit)) x = Bool.true ∧ Bool.true = Bool.true) → (Wr (IdI x.snd.fst x.fst (0 : Int)) ∧ Wr ((0 : Int) = (0 : Int)) ∧ Wr (x.fst = x.fst) ∧ Wr (x.snd.fst
  = x.snd.fst) ∧ Wr (x.fst = x.fst) ∧ Wr ((↑(List.length x.fst) : Int) = (↑(List.length x.fst) : Int))) ∧ ∀ (x_1 : Int), Wr (IdI x.snd.fst x.fst x_1) → bcase (Decidable.decide (x_1 < (↑(List.length x.fst) : Int))) (Wr ((0
  : Int) ≤ x_1) ∧ Wr (x_1 < (↑(List.length x.fst) : Int)) ∧ Wr (Bool.true = Bool.true) ∧ bcase (Decidable.decide (x.snd.fst = List.getD x.fst (Int.toNat x_1) (0 : Int))) ((x_1, ()) = (idxN x.snd.fst x.fst, ())) (Wr (IdI
  x.snd.fst x.fst (IntKind.wrap IntKind.i64 (x_1 + (1 : Int)))) ∧ Wr (List.length x.fst - Int.toNat (IntKind.wrap IntKind.i64 (x_1 + (1 : Int))) < List.length x.fst - Int.toNat x_1) ∧ Wr (IntKind.wrap IntKind.i64 (x_1 +
  (1 : Int)) = IntKind.wrap IntKind.i64 (x_1 + (1 : Int))) ∧ Wr (x.fst = x.fst) ∧ Wr (x.snd.fst = x.snd.fst) ∧ Wr (x.fst = x.fst) ∧ Wr ((↑(List.length x.fst) : Int) = (↑(List.length x.fst) : Int)))) (((-1 : Int), ()) =
  (idxN x.snd.fst x.fst, ()))) := by kernel_rfl
theorem v43_eq : vcFn g43 300 Try.f43 cIdx.T = ( ∀ (x : List Int × Int × Unit), Wr (typedB (Ty.cons IL (Ty.cons I64 Ty.unit)) x = Bool.true ∧ Bool.true = Bool.true) → (Wr (IdI x.snd.fst x.fst (0 : Int)) ∧ Wr ((0 : Int) = (0 : Int)) ∧ Wr (x.fst = x.fst) ∧ Wr (x.snd.fst
  = x.snd.fst)) ∧ ∀ (x_1 : Int), Wr (IdI x.snd.fst x.fst x_1) → bcase (Decidable.decide (x_1 < (↑(List.length x.fst) : Int))) (Wr ((0 : Int) ≤ x_1) ∧ Wr (x_1 < (↑(List.length x.fst) : Int)) ∧ Wr (Bool.true = Bool.true) ∧
  bcase (Decidable.decide (List.getD x.fst (Int.toNat x_1) (0 : Int) = x.snd.fst)) ((x_1, ()) = (idxN x.snd.fst x.fst, ())) (Wr (IdI x.snd.fst x.fst (IntKind.wrap IntKind.i64 (x_1 + (1 : Int)))) ∧ Wr (List.length x.fst -
  Int.toNat (IntKind.wrap IntKind.i64 (x_1 + (1 : Int))) < List.length x.fst - Int.toNat x_1) ∧ Wr (IntKind.wrap IntKind.i64 (x_1 + (1 : Int)) = IntKind.wrap IntKind.i64 (x_1 + (1 : Int))) ∧ Wr (x.fst = x.fst) ∧ Wr
  (x.snd.fst = x.snd.fst))) (((-1 : Int), ()) = (idxN x.snd.fst x.fst, ()))) := by kernel_rfl
theorem v48_eq : vcFn g48 300 Try.f48 ((cClone 3 8 I64)) = ( ∀ (x : List Int × Unit), Wr (Decidable.decide (List.length x.fst * (8 : Nat) ≤ (140737488355328 : Nat)) = Bool.true) → ∀ (b : Bool), Wr (b = Bool.true → x.fst = nilL Int) → bcase b (x.fst = nilL Int) (Wr ((List.length
  (nilL Int) + List.length x.fst) * (8 : Nat) ≤ (140737488355328 : Nat)) ∧ nilL Int ++ x.fst = x.fst)) := by kernel_rfl
theorem v71_eq : vcFn g71 300 Try.f71 cPart.T = ( ∀ (x : (Int × Bool × Int × Unit) × Int × Unit), Wr (typedB (Ty.cons FlT (Ty.cons I64 Ty.unit)) x = Bool.true ∧ Bool.true = Bool.true) → Wr (Bool.true = Bool.true) ∧ bcase (onF (x.fst.fst, x.fst.snd.fst, Max.max
  (IntKind.wrap IntKind.i64 (Max.max x.fst.snd.snd.fst (0 : Int) - Max.max x.snd.fst (0 : Int))) (0 : Int), ()) && !x.fst.snd.fst && Decidable.decide (Max.max (IntKind.wrap IntKind.i64 (Max.max x.fst.snd.snd.fst (0 : Int)
  - Max.max x.snd.fst (0 : Int))) (0 : Int) = (0 : Int))) (((x.fst.fst, Bool.true, Max.max (IntKind.wrap IntKind.i64 (Max.max x.fst.snd.snd.fst (0 : Int) - Max.max x.snd.fst (0 : Int))) (0 : Int), ()), onF (x.fst.fst,
  x.fst.snd.fst, Max.max (IntKind.wrap IntKind.i64 (Max.max x.fst.snd.snd.fst (0 : Int) - Max.max x.snd.fst (0 : Int))) (0 : Int), ()) && !x.fst.snd.fst && Decidable.decide (Max.max (IntKind.wrap IntKind.i64 (Max.max
  x.fst.snd.snd.fst (0 : Int) - Max.max x.snd.fst (0 : Int))) (0 : Int) = (0 : Int)), ()) = (partF x.fst x.snd.fst, partC x.fst x.snd.fst, ())) (((x.fst.fst, x.fst.snd.fst, Max.max (IntKind.wrap IntKind.i64 (Max.max
  x.fst.snd.snd.fst (0 : Int) - Max.max x.snd.fst (0 : Int))) (0 : Int), ()), onF (x.fst.fst, x.fst.snd.fst, Max.max (IntKind.wrap IntKind.i64 (Max.max x.fst.snd.snd.fst (0 : Int) - Max.max x.snd.fst (0 : Int))) (0 :
  Int), ()) && !x.fst.snd.fst && Decidable.decide (Max.max (IntKind.wrap IntKind.i64 (Max.max x.fst.snd.snd.fst (0 : Int) - Max.max x.snd.fst (0 : Int))) (0 : Int) = (0 : Int)), ()) = (partF x.fst x.snd.fst, partC x.fst
  x.snd.fst, ()))) := by kernel_rfl
theorem v70_eq : vcFn g70 300 Try.f70 cStarts = ( ∀ (x : (Int × Bool × Int × Unit) × Unit), Wr (Bool.true = Bool.true) → Wr (Bool.true = Bool.true) ∧ (!onF x.fst && Decidable.decide (x.fst.snd.snd.fst > (0 : Int)), ()) = (startsF x.fst, ())) := by kernel_rfl
theorem v62_eq : vcFn g62 300 Try.f62 cJoin = ( ∀ (x : (Int × Bool × Int × Unit) × List Int × Unit), Wr ((Decidable.decide (x.fst.snd.snd.fst ≤ (1152921504606846976 : Ty.El I64)) && Decidable.decide (List.length x.snd.fst = (1 : Nat))) = Bool.true) → ((x.fst.fst,
  x.fst.snd.fst, IntKind.wrap IntKind.i64 (Max.max x.fst.snd.snd.fst (0 : Int) + (↑(List.length x.snd.fst) : Int)), ()), ()) = (joinF x.fst, ())) := by kernel_rfl
theorem v65_eq : vcFn g65 300 Try.f65 cEnd = ( ∀ (x : (Int × Bool × Int × Unit) × Unit), Wr (Bool.true = Bool.true) → (((-1 : Int), Bool.false, Max.max x.fst.snd.snd.fst (0 : Int), ()), ()) = (endF x.fst, ())) := by kernel_rfl
theorem v44_eq : vcFn g44 300 Try.f44 cBegin = ( ∀ (x : (Int × Bool × Int × Unit) × Int × Unit), Wr (Bool.true = Bool.true) → Wr (Bool.true = Bool.true) ∧ bcase (onF x.fst || Decidable.decide (x.snd.fst < (0 : Int))) ((((0 : Int), Bool.false, (0 : Int), ()), (2 : Int),
  ()) = (beginF x.fst x.snd.fst, beginE x.fst x.snd.fst, ())) (((x.snd.fst, Bool.false, Max.max x.fst.snd.snd.fst (0 : Int), ()), (0 : Int), ()) = (beginF x.fst x.snd.fst, beginE x.fst x.snd.fst, ()))) := by kernel_rfl
theorem v30_eq : vcFn g30 300 Try.f30 cFlCk = ( ∀ (x : (Int × Bool × Int × Unit) × Unit), Wr (Bool.true = Bool.true) → Wr ((!(Decidable.decide (x.fst.fst < (-1 : Int)) || Decidable.decide (x.fst.snd.snd.fst < (0 : Int))) && x.fst.snd.fst) = Bool.true → Bool.true =
  Bool.true) ∧ bcase (Decidable.decide (x.fst.fst < (-1 : Int)) || Decidable.decide (x.fst.snd.snd.fst < (0 : Int)) || x.fst.snd.fst && !onF x.fst) (((2 : Int), ()) = (flCk x.fst, ())) (((0 : Int), ()) = (flCk x.fst, ()))) := by kernel_rfl
theorem v24_eq : vcFn g24 300 Try.f24 cFlCk = ( ∀ (x : (Int × Bool × Int × Unit) × Unit), Wr (Bool.true = Bool.true) → bcase (Decidable.decide (x.fst.fst < (-1 : Int)) || Decidable.decide (x.fst.snd.snd.fst < (0 : Int)) || x.fst.snd.fst && Decidable.decide (x.fst.fst
  < (0 : Int))) (((2 : Int), ()) = (flCk x.fst, ())) (((0 : Int), ()) = (flCk x.fst, ()))) := by kernel_rfl
theorem v13_eq : vcFn g13 300 Try.f13 cOwns = ( ∀ (x : ((Int × Int × Int × Int × Int × Int × Int × Int × Int × Unit) × List (Int × Int × Unit) × List Int × List Int × (Int × Bool × Int × Unit) × List ((Int × (Int × Int × Int × Int × Int × Int × Int × Int × Unit) × Int
  × Unit) × Int × Unit) × Bool × Unit) × Unit), Wr (szB x.fst = Bool.true) → (Wr (OwI x.fst.snd.fst (0 : Int) (nilL Int)) ∧ Wr ((0 : Int) = (0 : Int)) ∧ Wr (x.fst.snd.fst = x.fst.snd.fst) ∧ Wr ((↑(List.length
  x.fst.snd.fst) : Int) = (↑(List.length x.fst.snd.fst) : Int)) ∧ Wr (nilL Int = nilL Int) ∧ Wr (x.fst.fst.fst = x.fst.fst.fst) ∧ Wr (x.fst.fst.snd.fst = x.fst.fst.snd.fst) ∧ Wr (x.fst.fst.snd.snd.fst =
  x.fst.fst.snd.snd.fst) ∧ Wr (x.fst.fst.snd.snd.snd.fst = x.fst.fst.snd.snd.snd.fst) ∧ Wr (x.fst.fst.snd.snd.snd.snd.fst = x.fst.fst.snd.snd.snd.snd.fst) ∧ Wr (x.fst.fst.snd.snd.snd.snd.snd.fst =
  x.fst.fst.snd.snd.snd.snd.snd.fst) ∧ Wr (x.fst.fst.snd.snd.snd.snd.snd.snd.fst = x.fst.fst.snd.snd.snd.snd.snd.snd.fst) ∧ Wr (x.fst.fst.snd.snd.snd.snd.snd.snd.snd.fst = x.fst.fst.snd.snd.snd.snd.snd.snd.snd.fst) ∧ Wr
  (x.fst.fst.snd.snd.snd.snd.snd.snd.snd.snd.fst = x.fst.fst.snd.snd.snd.snd.snd.snd.snd.snd.fst) ∧ Wr (x.fst.snd.fst = x.fst.snd.fst) ∧ Wr (x.fst.snd.snd.fst = x.fst.snd.snd.fst) ∧ Wr (x.fst.snd.snd.snd.fst =
  x.fst.snd.snd.snd.fst) ∧ Wr (x.fst.snd.snd.snd.snd.fst.fst = x.fst.snd.snd.snd.snd.fst.fst) ∧ Wr (x.fst.snd.snd.snd.snd.fst.snd.fst = x.fst.snd.snd.snd.snd.fst.snd.fst) ∧ Wr (x.fst.snd.snd.snd.snd.fst.snd.snd.fst =
  x.fst.snd.snd.snd.snd.fst.snd.snd.fst) ∧ Wr (x.fst.snd.snd.snd.snd.snd.fst = x.fst.snd.snd.snd.snd.snd.fst) ∧ Wr (x.fst.snd.snd.snd.snd.snd.snd.fst = x.fst.snd.snd.snd.snd.snd.snd.fst)) ∧ ∀ (x_1 : Int × List Int), Wr
  (OwI x.fst.snd.fst x_1.fst x_1.snd) → bcase (Decidable.decide (x_1.fst < (↑(List.length x.fst.snd.fst) : Int))) (Wr ((0 : Int) ≤ x_1.fst) ∧ Wr (x_1.fst < (↑(List.length x.fst.snd.fst) : Int)) ∧ Wr (Bool.true =
  Bool.true) ∧ Wr ((List.length x_1.snd + List.length ((List.getD x.fst.snd.fst (Int.toNat x_1.fst) (Ty.zero RestT)).fst :: nilL Int)) * (8 : Nat) ≤ (140737488355328 : Nat)) ∧ Wr (OwI x.fst.snd.fst (IntKind.wrap
  IntKind.i64 (x_1.fst + (1 : Int))) (x_1.snd ++ (List.getD x.fst.snd.fst (Int.toNat x_1.fst) (Ty.zero RestT)).fst :: nilL Int)) ∧ Wr (List.length x.fst.snd.fst - Int.toNat (IntKind.wrap IntKind.i64 (x_1.fst + (1 : Int)))
  < List.length x.fst.snd.fst - Int.toNat x_1.fst) ∧ Wr (IntKind.wrap IntKind.i64 (x_1.fst + (1 : Int)) = IntKind.wrap IntKind.i64 (x_1.fst + (1 : Int))) ∧ Wr (x.fst.snd.fst = x.fst.snd.fst) ∧ Wr ((↑(List.length
  x.fst.snd.fst) : Int) = (↑(List.length x.fst.snd.fst) : Int)) ∧ Wr (x_1.snd ++ (List.getD x.fst.snd.fst (Int.toNat x_1.fst) (Ty.zero RestT)).fst :: nilL Int = x_1.snd ++ (List.getD x.fst.snd.fst (Int.toNat x_1.fst)
  (Ty.zero RestT)).fst :: nilL Int) ∧ Wr (x.fst.fst.fst = x.fst.fst.fst) ∧ Wr (x.fst.fst.snd.fst = x.fst.fst.snd.fst) ∧ Wr (x.fst.fst.snd.snd.fst = x.fst.fst.snd.snd.fst) ∧ Wr (x.fst.fst.snd.snd.snd.fst =
  x.fst.fst.snd.snd.snd.fst) ∧ Wr (x.fst.fst.snd.snd.snd.snd.fst = x.fst.fst.snd.snd.snd.snd.fst) ∧ Wr (x.fst.fst.snd.snd.snd.snd.snd.fst = x.fst.fst.snd.snd.snd.snd.snd.fst) ∧ Wr (x.fst.fst.snd.snd.snd.snd.snd.snd.fst =
  x.fst.fst.snd.snd.snd.snd.snd.snd.fst) ∧ Wr (x.fst.fst.snd.snd.snd.snd.snd.snd.snd.fst = x.fst.fst.snd.snd.snd.snd.snd.snd.snd.fst) ∧ Wr (x.fst.fst.snd.snd.snd.snd.snd.snd.snd.snd.fst =
  x.fst.fst.snd.snd.snd.snd.snd.snd.snd.snd.fst) ∧ Wr (x.fst.snd.fst = x.fst.snd.fst) ∧ Wr (x.fst.snd.snd.fst = x.fst.snd.snd.fst) ∧ Wr (x.fst.snd.snd.snd.fst = x.fst.snd.snd.snd.fst) ∧ Wr (x.fst.snd.snd.snd.snd.fst.fst =
  x.fst.snd.snd.snd.snd.fst.fst) ∧ Wr (x.fst.snd.snd.snd.snd.fst.snd.fst = x.fst.snd.snd.snd.snd.fst.snd.fst) ∧ Wr (x.fst.snd.snd.snd.snd.fst.snd.snd.fst = x.fst.snd.snd.snd.snd.fst.snd.snd.fst) ∧ Wr
  (x.fst.snd.snd.snd.snd.snd.fst = x.fst.snd.snd.snd.snd.snd.fst) ∧ Wr (x.fst.snd.snd.snd.snd.snd.snd.fst = x.fst.snd.snd.snd.snd.snd.snd.fst)) (Wr ((List.length x_1.snd + List.length x.fst.snd.snd.fst) * (8 : Nat) ≤
  (140737488355328 : Nat)) ∧ (x_1.snd ++ x.fst.snd.snd.fst, ()) = (ownsL x.fst, ()))) := by kernel_rfl
theorem v23_eq : vcFn g23 300 Try.f23 cOwns = ( ∀ (x : ((Int × Int × Int × Int × Int × Int × Int × Int × Int × Unit) × List (Int × Int × Unit) × List Int × List Int × (Int × Bool × Int × Unit) × List ((Int × (Int × Int × Int × Int × Int × Int × Int × Int × Unit) × Int
  × Unit) × Int × Unit) × Bool × Unit) × Unit), Wr (szB x.fst = Bool.true) → (Wr (OwI x.fst.snd.fst (0 : Int) (nilL Int)) ∧ Wr ((0 : Int) = (0 : Int)) ∧ Wr (nilL Int = nilL Int) ∧ Wr (x.fst.fst.fst = x.fst.fst.fst) ∧ Wr
  (x.fst.fst.snd.fst = x.fst.fst.snd.fst) ∧ Wr (x.fst.fst.snd.snd.fst = x.fst.fst.snd.snd.fst) ∧ Wr (x.fst.fst.snd.snd.snd.fst = x.fst.fst.snd.snd.snd.fst) ∧ Wr (x.fst.fst.snd.snd.snd.snd.fst =
  x.fst.fst.snd.snd.snd.snd.fst) ∧ Wr (x.fst.fst.snd.snd.snd.snd.snd.fst = x.fst.fst.snd.snd.snd.snd.snd.fst) ∧ Wr (x.fst.fst.snd.snd.snd.snd.snd.snd.fst = x.fst.fst.snd.snd.snd.snd.snd.snd.fst) ∧ Wr
  (x.fst.fst.snd.snd.snd.snd.snd.snd.snd.fst = x.fst.fst.snd.snd.snd.snd.snd.snd.snd.fst) ∧ Wr (x.fst.fst.snd.snd.snd.snd.snd.snd.snd.snd.fst = x.fst.fst.snd.snd.snd.snd.snd.snd.snd.snd.fst) ∧ Wr (x.fst.snd.fst =
  x.fst.snd.fst) ∧ Wr (x.fst.snd.snd.fst = x.fst.snd.snd.fst) ∧ Wr (x.fst.snd.snd.snd.fst = x.fst.snd.snd.snd.fst) ∧ Wr (x.fst.snd.snd.snd.snd.fst.fst = x.fst.snd.snd.snd.snd.fst.fst) ∧ Wr
  (x.fst.snd.snd.snd.snd.fst.snd.fst = x.fst.snd.snd.snd.snd.fst.snd.fst) ∧ Wr (x.fst.snd.snd.snd.snd.fst.snd.snd.fst = x.fst.snd.snd.snd.snd.fst.snd.snd.fst) ∧ Wr (x.fst.snd.snd.snd.snd.snd.fst =
  x.fst.snd.snd.snd.snd.snd.fst) ∧ Wr (x.fst.snd.snd.snd.snd.snd.snd.fst = x.fst.snd.snd.snd.snd.snd.snd.fst)) ∧ ∀ (x_1 : Int × List Int), Wr (OwI x.fst.snd.fst x_1.fst x_1.snd) → bcase (Decidable.decide (x_1.fst <
  (↑(List.length x.fst.snd.fst) : Int))) (Wr ((0 : Int) ≤ x_1.fst) ∧ Wr (x_1.fst < (↑(List.length x.fst.snd.fst) : Int)) ∧ Wr (Bool.true = Bool.true) ∧ Wr (Bool.true = Bool.true) ∧ Wr ((List.length x_1.snd + List.length
  ((List.getD x.fst.snd.fst (Int.toNat x_1.fst) (Ty.zero RestT)).fst :: nilL Int)) * (8 : Nat) ≤ (140737488355328 : Nat)) ∧ Wr (OwI x.fst.snd.fst (IntKind.wrap IntKind.i64 (x_1.fst + (1 : Int))) (x_1.snd ++ (List.getD
  x.fst.snd.fst (Int.toNat x_1.fst) (Ty.zero RestT)).fst :: nilL Int)) ∧ Wr (List.length x.fst.snd.fst - Int.toNat (IntKind.wrap IntKind.i64 (x_1.fst + (1 : Int))) < List.length x.fst.snd.fst - Int.toNat x_1.fst) ∧ Wr
  (IntKind.wrap IntKind.i64 (x_1.fst + (1 : Int)) = IntKind.wrap IntKind.i64 (x_1.fst + (1 : Int))) ∧ Wr (x_1.snd ++ (List.getD x.fst.snd.fst (Int.toNat x_1.fst) (Ty.zero RestT)).fst :: nilL Int = x_1.snd ++ (List.getD
  x.fst.snd.fst (Int.toNat x_1.fst) (Ty.zero RestT)).fst :: nilL Int) ∧ Wr (x.fst.fst.fst = x.fst.fst.fst) ∧ Wr (x.fst.fst.snd.fst = x.fst.fst.snd.fst) ∧ Wr (x.fst.fst.snd.snd.fst = x.fst.fst.snd.snd.fst) ∧ Wr
  (x.fst.fst.snd.snd.snd.fst = x.fst.fst.snd.snd.snd.fst) ∧ Wr (x.fst.fst.snd.snd.snd.snd.fst = x.fst.fst.snd.snd.snd.snd.fst) ∧ Wr (x.fst.fst.snd.snd.snd.snd.snd.fst = x.fst.fst.snd.snd.snd.snd.snd.fst) ∧ Wr
  (x.fst.fst.snd.snd.snd.snd.snd.snd.fst = x.fst.fst.snd.snd.snd.snd.snd.snd.fst) ∧ Wr (x.fst.fst.snd.snd.snd.snd.snd.snd.snd.fst = x.fst.fst.snd.snd.snd.snd.snd.snd.snd.fst) ∧ Wr
  (x.fst.fst.snd.snd.snd.snd.snd.snd.snd.snd.fst = x.fst.fst.snd.snd.snd.snd.snd.snd.snd.snd.fst) ∧ Wr (x.fst.snd.fst = x.fst.snd.fst) ∧ Wr (x.fst.snd.snd.fst = x.fst.snd.snd.fst) ∧ Wr (x.fst.snd.snd.snd.fst =
  x.fst.snd.snd.snd.fst) ∧ Wr (x.fst.snd.snd.snd.snd.fst.fst = x.fst.snd.snd.snd.snd.fst.fst) ∧ Wr (x.fst.snd.snd.snd.snd.fst.snd.fst = x.fst.snd.snd.snd.snd.fst.snd.fst) ∧ Wr (x.fst.snd.snd.snd.snd.fst.snd.snd.fst =
  x.fst.snd.snd.snd.snd.fst.snd.snd.fst) ∧ Wr (x.fst.snd.snd.snd.snd.snd.fst = x.fst.snd.snd.snd.snd.snd.fst) ∧ Wr (x.fst.snd.snd.snd.snd.snd.snd.fst = x.fst.snd.snd.snd.snd.snd.snd.fst)) (Wr ((List.length x_1.snd +
  List.length x.fst.snd.snd.fst) * (8 : Nat) ≤ (140737488355328 : Nat)) ∧ (x_1.snd ++ x.fst.snd.snd.fst, ()) = (ownsL x.fst, ()))) := by kernel_rfl
theorem v25_eq : vcFn g25 300 Try.f25 cTwice3 = ( ∀ (x : List Int × Unit), Wr (Decidable.decide (List.length x.fst ≤ (3000000 : Nat)) = Bool.true) → (Wr (TwI x.fst (0 : Int)) ∧ Wr ((0 : Int) = (0 : Int)) ∧ Wr (x.fst = x.fst)) ∧ ∀ (x_1 : Int), Wr (TwI x.fst x_1) → bcase
  (Decidable.decide (x_1 < (↑(List.length x.fst) : Int))) (Wr ((0 : Int) ≤ x_1) ∧ Wr (x_1 < (↑(List.length x.fst) : Int)) ∧ Wr (Bool.true = Bool.true) ∧ Wr (Bool.true = Bool.true) ∧ bcase (!Decidable.decide (idxN
  (List.getD x.fst (Int.toNat x_1) (0 : Int)) x.fst = x_1)) ((Bool.true, ()) = (twB x.fst, ())) (Wr (TwI x.fst (IntKind.wrap IntKind.i64 (x_1 + (1 : Int)))) ∧ Wr (List.length x.fst - Int.toNat (IntKind.wrap IntKind.i64
  (x_1 + (1 : Int))) < List.length x.fst - Int.toNat x_1) ∧ Wr (IntKind.wrap IntKind.i64 (x_1 + (1 : Int)) = IntKind.wrap IntKind.i64 (x_1 + (1 : Int))) ∧ Wr (x.fst = x.fst))) ((Bool.false, ()) = (twB x.fst, ()))) := by kernel_rfl
theorem v10_eq : vcFn g10 300 Try.f10 cCk = ( ∀ (x : ((Int × Int × Int × Int × Int × Int × Int × Int × Int × Unit) × List (Int × Int × Unit) × List Int × List Int × (Int × Bool × Int × Unit) × List ((Int × (Int × Int × Int × Int × Int × Int × Int × Int × Unit) × Int
  × Unit) × Int × Unit) × Bool × Unit) × Unit), Wr (szB x.fst = Bool.true) → Wr (szB x.fst = Bool.true) ∧ Wr (Bool.true = Bool.true) ∧ Wr ((Decidable.decide (flCk x.fst.snd.snd.snd.snd.fst = (0 : Int)) && Decidable.decide
  (x.fst.snd.snd.snd.snd.fst.snd.snd.fst = (↑(List.length x.fst.snd.snd.snd.fst) : Int)) && Decidable.decide ((↑(List.length x.fst.snd.fst) : Int) ≤ x.fst.fst.snd.fst)) = Bool.true → Decidable.decide (List.length (ownsL
  x.fst) ≤ (3000000 : Nat)) = Bool.true) ∧ Wr ((Decidable.decide (flCk x.fst.snd.snd.snd.snd.fst = (0 : Int)) && Decidable.decide (x.fst.snd.snd.snd.snd.fst.snd.snd.fst = (↑(List.length x.fst.snd.snd.snd.fst) : Int)) &&
  Decidable.decide ((↑(List.length x.fst.snd.fst) : Int) ≤ x.fst.fst.snd.fst) && Decidable.decide (List.Nodup (ownsL x.fst))) = Bool.true → Decidable.decide (List.length x.fst.snd.snd.snd.fst ≤ (3000000 : Nat)) =
  Bool.true) ∧ bcase (!(Decidable.decide (flCk x.fst.snd.snd.snd.snd.fst = (0 : Int)) && Decidable.decide (x.fst.snd.snd.snd.snd.fst.snd.snd.fst = (↑(List.length x.fst.snd.snd.snd.fst) : Int)) && Decidable.decide
  ((↑(List.length x.fst.snd.fst) : Int) ≤ x.fst.fst.snd.fst) && Decidable.decide (List.Nodup (ownsL x.fst)) && Decidable.decide (List.Nodup x.fst.snd.snd.snd.fst)) || Decidable.decide ((↑(List.length
  x.fst.snd.snd.snd.fst) : Int) > (0 : Int)) && Decidable.decide ((↑(List.length x.fst.snd.fst) : Int) > (0 : Int)) || x.fst.snd.snd.snd.snd.snd.snd.fst && Decidable.decide (IntKind.wrap IntKind.i64 ((↑(List.length (ownsL
  x.fst)) : Int) + (↑(List.length x.fst.snd.snd.snd.fst) : Int)) > (0 : Int))) (((2 : Int), ()) = (ckE x.fst, ())) (((0 : Int), ()) = (ckE x.fst, ()))) := by kernel_rfl
theorem v7_eq : vcFn g7 300 Try.f7 cCk = ( ∀ (x : ((Int × Int × Int × Int × Int × Int × Int × Int × Int × Unit) × List (Int × Int × Unit) × List Int × List Int × (Int × Bool × Int × Unit) × List ((Int × (Int × Int × Int × Int × Int × Int × Int × Int × Unit) × Int
  × Unit) × Int × Unit) × Bool × Unit) × Unit), Wr (szB x.fst = Bool.true) → Wr (szB x.fst = Bool.true) ∧ Wr (Bool.true = Bool.true) ∧ Wr ((!(!Decidable.decide (flCk x.fst.snd.snd.snd.snd.fst = (0 : Int)) ||
  !Decidable.decide (x.fst.snd.snd.snd.snd.fst.snd.snd.fst = (↑(List.length x.fst.snd.snd.snd.fst) : Int)) || Decidable.decide ((↑(List.length x.fst.snd.fst) : Int) > x.fst.fst.snd.fst))) = Bool.true → Decidable.decide
  (List.length (ownsL x.fst) ≤ (3000000 : Nat)) = Bool.true) ∧ Wr ((!(!Decidable.decide (flCk x.fst.snd.snd.snd.snd.fst = (0 : Int)) || !Decidable.decide (x.fst.snd.snd.snd.snd.fst.snd.snd.fst = (↑(List.length
  x.fst.snd.snd.snd.fst) : Int)) || Decidable.decide ((↑(List.length x.fst.snd.fst) : Int) > x.fst.fst.snd.fst) || twB (ownsL x.fst))) = Bool.true → Decidable.decide (List.length x.fst.snd.snd.snd.fst ≤ (3000000 : Nat)) =
  Bool.true) ∧ bcase (!Decidable.decide (flCk x.fst.snd.snd.snd.snd.fst = (0 : Int)) || !Decidable.decide (x.fst.snd.snd.snd.snd.fst.snd.snd.fst = (↑(List.length x.fst.snd.snd.snd.fst) : Int)) || Decidable.decide
  ((↑(List.length x.fst.snd.fst) : Int) > x.fst.fst.snd.fst) || twB (ownsL x.fst) || twB x.fst.snd.snd.snd.fst || Decidable.decide ((↑(List.length x.fst.snd.snd.snd.fst) : Int) > (0 : Int)) && Decidable.decide
  ((↑(List.length x.fst.snd.fst) : Int) > (0 : Int)) || x.fst.snd.snd.snd.snd.snd.snd.fst && Decidable.decide (IntKind.wrap IntKind.i64 ((↑(List.length (ownsL x.fst)) : Int) + (↑(List.length x.fst.snd.snd.snd.fst) : Int))
  > (0 : Int))) (((2 : Int), ()) = (ckE x.fst, ())) (((0 : Int), ()) = (ckE x.fst, ()))) := by kernel_rfl
theorem v6_eq : vcFn g6 300 Try.f6 cGreat = ( ∀ (x : ((Int × Int × Int × Int × Int × Int × Int × Int × Int × Unit) × List (Int × Int × Unit) × List Int × List Int × (Int × Bool × Int × Unit) × List ((Int × (Int × Int × Int × Int × Int × Int × Int × Int × Unit) × Int
  × Unit) × Int × Unit) × Bool × Unit) × Unit), Wr (Bool.true = Bool.true) → (Decidable.decide ((↑(List.length x.fst.snd.fst) : Int) > (60 : Int)) || Decidable.decide ((↑(List.length x.fst.snd.snd.fst) : Int) > (100 :
  Int)) || Decidable.decide ((↑(List.length x.fst.snd.snd.snd.fst) : Int) > (100 : Int)) || Decidable.decide ((↑(List.length x.fst.snd.snd.snd.snd.snd.fst) : Int) > (100 : Int)) || Decidable.decide
  (x.fst.snd.snd.snd.snd.fst.snd.snd.fst > (1099511627776 : Int)), ()) = (greatB x.fst, ())) := by kernel_rfl
theorem v33_eq : vcFn g33 300 Try.f33 ((cSam I64)).T = ( ∀ (x : List Int × List Int × Unit), Wr (typedB (Ty.cons (Ty.sl I64) (Ty.cons (Ty.sl I64) Ty.unit)) x = Bool.true ∧ x.fst = x.snd.fst) → bcase (!Decidable.decide ((↑(List.length x.fst) : Int) = (↑(List.length x.snd.fst) :
  Int))) ((Bool.false, ()) = (Bool.true, ())) ((Wr (EqI x.fst (0 : Int)) ∧ Wr ((0 : Int) = (0 : Int)) ∧ Wr (x.fst = x.fst) ∧ Wr (x.snd.fst = x.snd.fst) ∧ Wr ((↑(List.length x.fst) : Int) = (↑(List.length x.fst) : Int))) ∧
  ∀ (x_1 : Int), Wr (EqI x.fst x_1) → bcase (Decidable.decide (x_1 < (↑(List.length x.fst) : Int))) (Wr ((0 : Int) ≤ x_1) ∧ Wr (x_1 < (↑(List.length x.fst) : Int)) ∧ Wr (Bool.true = Bool.true) ∧ Wr ((0 : Int) ≤ x_1) ∧ Wr
  (x_1 < (↑(List.length x.snd.fst) : Int)) ∧ Wr (Bool.true = Bool.true) ∧ bcase (!Decidable.decide (List.getD x.fst (Int.toNat x_1) (0 : Int) = List.getD x.snd.fst (Int.toNat x_1) (0 : Int))) ((Bool.false, ()) =
  (Bool.true, ())) (Wr (EqI x.fst (IntKind.wrap IntKind.i64 (x_1 + (1 : Int)))) ∧ Wr (List.length x.fst - Int.toNat (IntKind.wrap IntKind.i64 (x_1 + (1 : Int))) < List.length x.fst - Int.toNat x_1) ∧ Wr (IntKind.wrap
  IntKind.i64 (x_1 + (1 : Int)) = IntKind.wrap IntKind.i64 (x_1 + (1 : Int))) ∧ Wr (x.fst = x.fst) ∧ Wr (x.snd.fst = x.snd.fst) ∧ Wr ((↑(List.length x.fst) : Int) = (↑(List.length x.fst) : Int)))) ((Bool.true, ()) =
  (Bool.true, ())))) := by kernel_rfl
theorem v54_eq : vcFn g54 300 Try.f54 ((cSam RestT)).T = ( ∀ (x : List (Int × Int × Unit) × List (Int × Int × Unit) × Unit), Wr (typedB (Ty.cons (Ty.sl RestT) (Ty.cons (Ty.sl RestT) Ty.unit)) x = Bool.true ∧ x.fst = x.snd.fst) → bcase (!Decidable.decide ((↑(List.length x.fst) :
  Int) = (↑(List.length x.snd.fst) : Int))) ((Bool.false, ()) = (Bool.true, ())) ((Wr (EqI x.fst (0 : Int)) ∧ Wr ((0 : Int) = (0 : Int)) ∧ Wr (x.fst = x.fst) ∧ Wr (x.snd.fst = x.snd.fst) ∧ Wr ((↑(List.length x.fst) : Int)
  = (↑(List.length x.fst) : Int))) ∧ ∀ (x_1 : Int), Wr (EqI x.fst x_1) → bcase (Decidable.decide (x_1 < (↑(List.length x.fst) : Int))) (Wr ((0 : Int) ≤ x_1) ∧ Wr (x_1 < (↑(List.length x.fst) : Int)) ∧ Wr (Bool.true =
  Bool.true) ∧ Wr ((0 : Int) ≤ x_1) ∧ Wr (x_1 < (↑(List.length x.snd.fst) : Int)) ∧ Wr (Bool.true = Bool.true) ∧ bcase (!Ty.eqb (Ty.cons (Ty.int IntKind.i64) (Ty.cons (Ty.int IntKind.i64) Ty.unit)) (List.getD x.fst
  (Int.toNat x_1) (Ty.zero RestT)) (List.getD x.snd.fst (Int.toNat x_1) (Ty.zero RestT))) ((Bool.false, ()) = (Bool.true, ())) (Wr (EqI x.fst (IntKind.wrap IntKind.i64 (x_1 + (1 : Int)))) ∧ Wr (List.length x.fst -
  Int.toNat (IntKind.wrap IntKind.i64 (x_1 + (1 : Int))) < List.length x.fst - Int.toNat x_1) ∧ Wr (IntKind.wrap IntKind.i64 (x_1 + (1 : Int)) = IntKind.wrap IntKind.i64 (x_1 + (1 : Int))) ∧ Wr (x.fst = x.fst) ∧ Wr
  (x.snd.fst = x.snd.fst) ∧ Wr ((↑(List.length x.fst) : Int) = (↑(List.length x.fst) : Int)))) ((Bool.true, ()) = (Bool.true, ())))) := by kernel_rfl
theorem v55_eq : vcFn g55 300 Try.f55 ((cSam ScT)).T = ( ∀ (x : List ((Int × (Int × Int × Int × Int × Int × Int × Int × Int × Unit) × Int × Unit) × Int × Unit) × List ((Int × (Int × Int × Int × Int × Int × Int × Int × Int × Unit) × Int × Unit) × Int × Unit) × Unit), Wr (typedB
  (Ty.cons (Ty.sl ScT) (Ty.cons (Ty.sl ScT) Ty.unit)) x = Bool.true ∧ x.fst = x.snd.fst) → bcase (!Decidable.decide ((↑(List.length x.fst) : Int) = (↑(List.length x.snd.fst) : Int))) ((Bool.false, ()) = (Bool.true, ()))
  ((Wr (EqI x.fst (0 : Int)) ∧ Wr ((0 : Int) = (0 : Int)) ∧ Wr (x.fst = x.fst) ∧ Wr (x.snd.fst = x.snd.fst) ∧ Wr ((↑(List.length x.fst) : Int) = (↑(List.length x.fst) : Int))) ∧ ∀ (x_1 : Int), Wr (EqI x.fst x_1) → bcase
  (Decidable.decide (x_1 < (↑(List.length x.fst) : Int))) (Wr ((0 : Int) ≤ x_1) ∧ Wr (x_1 < (↑(List.length x.fst) : Int)) ∧ Wr (Bool.true = Bool.true) ∧ Wr ((0 : Int) ≤ x_1) ∧ Wr (x_1 < (↑(List.length x.snd.fst) : Int)) ∧
  Wr (Bool.true = Bool.true) ∧ bcase (!Ty.eqb (Ty.cons (Ty.cons (Ty.int IntKind.i8) (Ty.cons (Ty.arr (8 : Nat) (Ty.int IntKind.u16)) (Ty.cons (Ty.int IntKind.i64) Ty.unit))) (Ty.cons (Ty.int IntKind.i64) Ty.unit))
  (List.getD x.fst (Int.toNat x_1) (Ty.zero ScT)) (List.getD x.snd.fst (Int.toNat x_1) (Ty.zero ScT))) ((Bool.false, ()) = (Bool.true, ())) (Wr (EqI x.fst (IntKind.wrap IntKind.i64 (x_1 + (1 : Int)))) ∧ Wr (List.length
  x.fst - Int.toNat (IntKind.wrap IntKind.i64 (x_1 + (1 : Int))) < List.length x.fst - Int.toNat x_1) ∧ Wr (IntKind.wrap IntKind.i64 (x_1 + (1 : Int)) = IntKind.wrap IntKind.i64 (x_1 + (1 : Int))) ∧ Wr (x.fst = x.fst) ∧
  Wr (x.snd.fst = x.snd.fst) ∧ Wr ((↑(List.length x.fst) : Int) = (↑(List.length x.fst) : Int)))) ((Bool.true, ()) = (Bool.true, ())))) := by kernel_rfl
theorem v32_eq : vcFn g32 300 Try.f32 ((cSam RestT)) = ( ∀ (x : List (Int × Int × Unit) × List (Int × Int × Unit) × Unit), Wr (x.fst = x.snd.fst) → Wr (x.fst = x.snd.fst) ∧ (Bool.true, ()) = (Bool.true, ())) := by kernel_rfl
theorem v34_eq : vcFn g34 300 Try.f34 ((cSam ScT)) = ( ∀ (x : List ((Int × (Int × Int × Int × Int × Int × Int × Int × Int × Unit) × Int × Unit) × Int × Unit) × List ((Int × (Int × Int × Int × Int × Int × Int × Int × Int × Unit) × Int × Unit) × Int × Unit) × Unit), Wr (x.fst
  = x.snd.fst) → Wr (x.fst = x.snd.fst) ∧ (Bool.true, ()) = (Bool.true, ())) := by kernel_rfl
theorem v11_eq : vcFn g11 300 Try.f11 cSameB = ( ∀ (x : ((Int × Int × Int × Int × Int × Int × Int × Int × Int × Unit) × List (Int × Int × Unit) × List Int × List Int × (Int × Bool × Int × Unit) × List ((Int × (Int × Int × Int × Int × Int × Int × Int × Int × Unit) × Int
  × Unit) × Int × Unit) × Bool × Unit) × ((Int × Int × Int × Int × Int × Int × Int × Int × Int × Unit) × List (Int × Int × Unit) × List Int × List Int × (Int × Bool × Int × Unit) × List ((Int × (Int × Int × Int × Int ×
  Int × Int × Int × Int × Unit) × Int × Unit) × Int × Unit) × Bool × Unit) × Unit), Wr (x.fst = x.snd.fst) → Wr ((Ty.eqb (Ty.cons (Ty.int IntKind.i64) (Ty.cons (Ty.int IntKind.i64) (Ty.cons (Ty.int IntKind.i64) (Ty.cons
  (Ty.int IntKind.i64) (Ty.cons (Ty.int IntKind.i64) (Ty.cons (Ty.int IntKind.i64) (Ty.cons (Ty.int IntKind.i64) (Ty.cons (Ty.int IntKind.i64) (Ty.cons (Ty.int IntKind.i64) Ty.unit))))))))) x.fst.fst x.snd.fst.fst &&
  Ty.eqb (Ty.cons (Ty.int IntKind.i64) (Ty.cons Ty.bool (Ty.cons (Ty.int IntKind.i64) Ty.unit))) x.fst.snd.snd.snd.snd.fst x.snd.fst.snd.snd.snd.snd.fst && x.fst.snd.snd.snd.snd.snd.snd.fst ==
  x.snd.fst.snd.snd.snd.snd.snd.snd.fst) = Bool.true → x.fst.snd.fst = x.snd.fst.snd.fst) ∧ Wr ((Ty.eqb (Ty.cons (Ty.int IntKind.i64) (Ty.cons (Ty.int IntKind.i64) (Ty.cons (Ty.int IntKind.i64) (Ty.cons (Ty.int
  IntKind.i64) (Ty.cons (Ty.int IntKind.i64) (Ty.cons (Ty.int IntKind.i64) (Ty.cons (Ty.int IntKind.i64) (Ty.cons (Ty.int IntKind.i64) (Ty.cons (Ty.int IntKind.i64) Ty.unit))))))))) x.fst.fst x.snd.fst.fst && Ty.eqb
  (Ty.cons (Ty.int IntKind.i64) (Ty.cons Ty.bool (Ty.cons (Ty.int IntKind.i64) Ty.unit))) x.fst.snd.snd.snd.snd.fst x.snd.fst.snd.snd.snd.snd.fst && x.fst.snd.snd.snd.snd.snd.snd.fst ==
  x.snd.fst.snd.snd.snd.snd.snd.snd.fst && Bool.true) = Bool.true → x.fst.snd.snd.fst = x.snd.fst.snd.snd.fst) ∧ Wr ((Ty.eqb (Ty.cons (Ty.int IntKind.i64) (Ty.cons (Ty.int IntKind.i64) (Ty.cons (Ty.int IntKind.i64)
  (Ty.cons (Ty.int IntKind.i64) (Ty.cons (Ty.int IntKind.i64) (Ty.cons (Ty.int IntKind.i64) (Ty.cons (Ty.int IntKind.i64) (Ty.cons (Ty.int IntKind.i64) (Ty.cons (Ty.int IntKind.i64) Ty.unit))))))))) x.fst.fst
  x.snd.fst.fst && Ty.eqb (Ty.cons (Ty.int IntKind.i64) (Ty.cons Ty.bool (Ty.cons (Ty.int IntKind.i64) Ty.unit))) x.fst.snd.snd.snd.snd.fst x.snd.fst.snd.snd.snd.snd.fst && x.fst.snd.snd.snd.snd.snd.snd.fst ==
  x.snd.fst.snd.snd.snd.snd.snd.snd.fst && Bool.true && Bool.true) = Bool.true → x.fst.snd.snd.snd.fst = x.snd.fst.snd.snd.snd.fst) ∧ Wr ((Ty.eqb (Ty.cons (Ty.int IntKind.i64) (Ty.cons (Ty.int IntKind.i64) (Ty.cons
  (Ty.int IntKind.i64) (Ty.cons (Ty.int IntKind.i64) (Ty.cons (Ty.int IntKind.i64) (Ty.cons (Ty.int IntKind.i64) (Ty.cons (Ty.int IntKind.i64) (Ty.cons (Ty.int IntKind.i64) (Ty.cons (Ty.int IntKind.i64) Ty.unit)))))))))
  x.fst.fst x.snd.fst.fst && Ty.eqb (Ty.cons (Ty.int IntKind.i64) (Ty.cons Ty.bool (Ty.cons (Ty.int IntKind.i64) Ty.unit))) x.fst.snd.snd.snd.snd.fst x.snd.fst.snd.snd.snd.snd.fst && x.fst.snd.snd.snd.snd.snd.snd.fst ==
  x.snd.fst.snd.snd.snd.snd.snd.snd.fst && Bool.true && Bool.true && Bool.true) = Bool.true → x.fst.snd.snd.snd.snd.snd.fst = x.snd.fst.snd.snd.snd.snd.snd.fst) ∧ (Ty.eqb (Ty.cons (Ty.int IntKind.i64) (Ty.cons (Ty.int
  IntKind.i64) (Ty.cons (Ty.int IntKind.i64) (Ty.cons (Ty.int IntKind.i64) (Ty.cons (Ty.int IntKind.i64) (Ty.cons (Ty.int IntKind.i64) (Ty.cons (Ty.int IntKind.i64) (Ty.cons (Ty.int IntKind.i64) (Ty.cons (Ty.int
  IntKind.i64) Ty.unit))))))))) x.fst.fst x.snd.fst.fst && Ty.eqb (Ty.cons (Ty.int IntKind.i64) (Ty.cons Ty.bool (Ty.cons (Ty.int IntKind.i64) Ty.unit))) x.fst.snd.snd.snd.snd.fst x.snd.fst.snd.snd.snd.snd.fst &&
  x.fst.snd.snd.snd.snd.snd.snd.fst == x.snd.fst.snd.snd.snd.snd.snd.snd.fst && Bool.true && Bool.true && Bool.true && Bool.true, ()) = (Bool.true, ())) := by kernel_rfl
theorem v12_eq : vcFn g12 300 Try.f12 ((cSam I64)).T = ( ∀ (x : List Int × List Int × Unit), Wr (typedB (Ty.cons (Ty.sl I64) (Ty.cons (Ty.sl I64) Ty.unit)) x = Bool.true ∧ x.fst = x.snd.fst) → bcase (!Decidable.decide ((↑(List.length x.fst) : Int) = (↑(List.length x.snd.fst) :
  Int))) ((Bool.false, ()) = (Bool.true, ())) ((Wr (EqI x.fst (0 : Int)) ∧ Wr ((0 : Int) = (0 : Int)) ∧ Wr (x.fst = x.fst) ∧ Wr (x.snd.fst = x.snd.fst)) ∧ ∀ (x_1 : Int), Wr (EqI x.fst x_1) → bcase (Decidable.decide (x_1 <
  (↑(List.length x.fst) : Int))) (Wr ((0 : Int) ≤ x_1) ∧ Wr (x_1 < (↑(List.length x.fst) : Int)) ∧ Wr (Bool.true = Bool.true) ∧ Wr ((0 : Int) ≤ x_1) ∧ Wr (x_1 < (↑(List.length x.snd.fst) : Int)) ∧ Wr (Bool.true =
  Bool.true) ∧ bcase (!Decidable.decide (List.getD x.fst (Int.toNat x_1) (0 : Int) = List.getD x.snd.fst (Int.toNat x_1) (0 : Int))) ((Bool.false, ()) = (Bool.true, ())) (Wr (EqI x.fst (IntKind.wrap IntKind.i64 (x_1 + (1
  : Int)))) ∧ Wr (List.length x.fst - Int.toNat (IntKind.wrap IntKind.i64 (x_1 + (1 : Int))) < List.length x.fst - Int.toNat x_1) ∧ Wr (IntKind.wrap IntKind.i64 (x_1 + (1 : Int)) = IntKind.wrap IntKind.i64 (x_1 + (1 :
  Int))) ∧ Wr (x.fst = x.fst) ∧ Wr (x.snd.fst = x.snd.fst))) ((Bool.true, ()) = (Bool.true, ())))) := by kernel_rfl
theorem v9_eq : vcFn g9 300 Try.f9 cQuit = ( ∀ (x : ((Int × Int × Int × Int × Int × Int × Int × Int × Int × Unit) × List (Int × Int × Unit) × List Int × List Int × (Int × Bool × Int × Unit) × List ((Int × (Int × Int × Int × Int × Int × Int × Int × Int × Unit) × Int
  × Unit) × Int × Unit) × Bool × Unit) × Int × Unit), Wr (okW x.fst = Bool.true) → Wr (Bool.true = Bool.true) ∧ bcase (Decidable.decide (idxN x.snd.fst x.fst.snd.snd.snd.fst ≥ (0 : Int))) (Wr (Decidable.decide
  (List.length x.fst.snd.snd.snd.fst * (8 : Nat) ≤ (140737488355328 : Nat)) = Bool.true) ∧ Wr ((0 : Ty.El I64) ≤ idxN x.snd.fst x.fst.snd.snd.snd.fst ∧ idxN x.snd.fst x.fst.snd.snd.snd.fst ≤ IntKind.wrap IntKind.i64 (idxN
  x.snd.fst x.fst.snd.snd.snd.fst + (1 : Int)) ∧ IntKind.wrap IntKind.i64 (idxN x.snd.fst x.fst.snd.snd.snd.fst + (1 : Int)) ≤ (↑(List.length x.fst.snd.snd.snd.fst) : Int) ∧ List.length x.fst.snd.snd.snd.fst ≤ (1000000000
  : Nat)) ∧ Wr (List.length ((x.snd.fst, (-1 : Int), (191 : Int), ()) :: nilL (Int × Int × Int × Unit)) * (24 : Nat) ≤ (140737488355328 : Nat)) ∧ Wr (Bool.true = Bool.true) ∧ Wr ((!x.fst.snd.snd.snd.snd.snd.snd.fst) =
  Bool.true → Bool.true = Bool.true) ∧ ((x.fst.fst, x.fst.snd.fst, x.fst.snd.snd.fst, delL x.fst.snd.snd.snd.fst (idxN x.snd.fst x.fst.snd.snd.snd.fst) (IntKind.wrap IntKind.i64 (idxN x.snd.fst x.fst.snd.snd.snd.fst + (1
  : Int))), partF x.fst.snd.snd.snd.snd.fst (1 : Int), x.fst.snd.snd.snd.snd.snd), ((x.snd.fst, (-1 : Int), (191 : Int), ()) :: nilL (Int × Int × Int × Unit), nilL Int, !x.fst.snd.snd.snd.snd.snd.snd.fst && startsF (partF
  x.fst.snd.snd.snd.snd.fst (1 : Int)), Bool.false || partC x.fst.snd.snd.snd.snd.fst (1 : Int), ()), ()) = (quitB x.fst x.snd.fst, quitT x.fst x.snd.fst, ())) (Wr ((!x.fst.snd.snd.snd.snd.snd.snd.fst) = Bool.true →
  Bool.true = Bool.true) ∧ (x.fst, (nilL (Int × Int × Int × Unit), nilL Int, !x.fst.snd.snd.snd.snd.snd.snd.fst && startsF x.fst.snd.snd.snd.snd.fst, Bool.false, ()), ()) = (quitB x.fst x.snd.fst, quitT x.fst x.snd.fst,
  ()))) := by kernel_rfl
end Go.Proofs.Ytdkcgcgefgeooaa.Bk
set_option linter.all false
namespace Go.Proofs.Ytdkcgcgefgeooaa.Bk
open Go Go.Eng Go.RowKit
set_option maxRecDepth 100000
set_option maxHeartbeats 8000000
abbrev GW (_ : World) : Prop := True
theorem gws : ∀ w w', Below w.heap.size w w' → GW w → GW w' := fun _ _ _ _ => trivial
theorem IdI.zero (x : Int) (l : List Int) : IdI x l 0 := ⟨by omega, by omega, rfl⟩
theorem IdI.succ {x : Int} {l : List Int} {i : Int} (h : IdI x l i) (hl : l.length ≤ 9223372036854775807) (hi : i < l.length) (hx : l.getD i.toNat 0 ≠ x) :
    IdI x l (IntKind.wrap .i64 (i + 1)) ∧ l.length - (IntKind.wrap .i64 (i + 1)).toNat < l.length - i.toNat := by
  have h0 := h.i0
  have e : IntKind.wrap .i64 (i + 1) = i + 1 := wrap_id (by omega) (by omega)
  rw [e]
  refine ⟨⟨by omega, by omega, ?_⟩, by omega⟩
  rw [take_succ l i 0 h0 hi, List.any_append, h.a, List.any_cons, List.any_nil, decide_eq_false hx]
  rfl
theorem idx_split (x : Int) (l : List Int) (i : Nat) (hi : i < l.length) (h : (l.take i).any (fun y => decide (y = x)) = false) (hx : l.getD i 0 = x) : idxN x l = i := by
  unfold idxN
  have e : l = l.take i ++ x :: l.drop (i + 1) := by
    have hg : l[i] = x := by rw [← hx, List.getD_eq_getElem?_getD, List.getElem?_eq_getElem hi]; rfl
    rw [← hg, ← List.drop_eq_getElem_cons hi, List.take_append_drop]
  have ha : l.any (fun y => decide (y = x)) = true := by
    rw [e, List.any_append, List.any_cons]; simp
  rw [ha, cond_true]
  have hf : l.findIdx (fun y => decide (y = x)) = i := by
    rw [e, List.findIdx_append]
    have hn : (l.take i).findIdx (fun y => decide (y = x)) = (l.take i).length := by
      rw [List.findIdx_eq_length]
      intro y hy
      rw [List.any_eq_false] at h
      simpa using h y hy
    rw [hn, if_neg (by omega), List.findIdx_cons]
    simp; omega
  rw [hf]
theorem idx_none {x : Int} {l : List Int} (h : l.any (fun y => decide (y = x)) = false) : idxN x l = -1 := by unfold idxN; rw [h]; rfl
theorem IdI.hit {x : Int} {l : List Int} {i : Int} (h : IdI x l i) (hi : i < l.length) (hx : l.getD i.toNat 0 = x) : i = idxN x l := by
  have h0 := h.i0
  rw [idx_split x l i.toNat (by omega) h.a hx]; omega
theorem IdI.done {x : Int} {l : List Int} {i : Int} (h : IdI x l i) (hi : ¬ i < l.length) : (-1 : Int) = idxN x l := by
  have e : l.take i.toNat = l := List.take_of_length_le (by have := h.i0; omega)
  have := h.a
  rw [e] at this
  rw [idx_none this]
theorem v39 : Vc g39 300 Try.f39 cOn := by
  constructor
  rw [v39_eq]
  simp only [Wr_iff, bcase_iff, true_and, and_true, decide_eq_true_eq, decide_eq_false_iff_not, Bool.and_eq_true, Bool.and_eq_false_iff, Bool.or_eq_true, Bool.or_eq_false_iff, Bool.not_eq_true', Bool.not_eq_false', Option.map_some, Option.getD_some, Option.isSome_some, Option.isSome_map, imp_self, nilL, noneO]
  intro x _
  rfl
theorem v46 : Vc g46 300 Try.f46 cIdx.T := by
  constructor
  rw [v46_eq]
  simp only [Wr_iff, bcase_iff, true_and, and_true, decide_eq_true_eq, decide_eq_false_iff_not, Bool.and_eq_true, Bool.and_eq_false_iff, Bool.or_eq_true, Bool.or_eq_false_iff, Bool.not_eq_true', Bool.not_eq_false', Option.map_some, Option.getD_some, Option.isSome_some, Option.isSome_map, imp_self, nilL, noneO]
  rintro ⟨l, x, ⟨⟩⟩ ht
  have hl : l.length ≤ 9223372036854775807 := by
    simp only [typedB, Bool.and_eq_true, decide_eq_true_eq] at ht
    exact ht.1.1
  dsimp only
  refine ⟨IdI.zero _ _, fun i hu => ⟨fun hi => ⟨hu.i0, hi, fun hg => ?_, fun hg => hu.succ hl hi fun e => hg e.symm⟩, fun hi => ?_⟩⟩
  · rw [← hu.hit hi hg.symm]
  · rw [← hu.done hi]
theorem v43 : Vc g43 300 Try.f43 cIdx.T := by
  constructor
  rw [v43_eq]
  simp only [Wr_iff, bcase_iff, true_and, and_true, decide_eq_true_eq, decide_eq_false_iff_not, Bool.and_eq_true, Bool.and_eq_false_iff, Bool.or_eq_true, Bool.or_eq_false_iff, Bool.not_eq_true', Bool.not_eq_false', Option.map_some, Option.getD_some, Option.isSome_some, Option.isSome_map, imp_self, nilL, noneO]
  rintro ⟨l, x, ⟨⟩⟩ ht
  have hl : l.length ≤ 9223372036854775807 := by
    simp only [typedB, Bool.and_eq_true, decide_eq_true_eq] at ht
    exact ht.1.1
  dsimp only
  refine ⟨IdI.zero _ _, fun i hu => ⟨fun hi => ⟨hu.i0, hi, fun hg => ?_, fun hg => hu.succ hl hi hg⟩, fun hi => ?_⟩⟩
  · rw [← hu.hit hi hg]
  · rw [← hu.done hi]
theorem v48 : Vc g48 300 Try.f48 (cClone 3 8 I64) := by
  constructor
  rw [v48_eq]
  simp only [Wr_iff, bcase_iff, true_and, and_true, decide_eq_true_eq, decide_eq_false_iff_not, Bool.and_eq_true, Bool.and_eq_false_iff, Bool.or_eq_true, Bool.or_eq_false_iff, Bool.not_eq_true', Bool.not_eq_false', Option.map_some, Option.getD_some, Option.isSome_some, Option.isSome_map, imp_self, nilL, noneO]
  rintro ⟨l, ⟨⟩⟩ h b hb
  dsimp only at *
  exact ⟨hb, fun _ => ⟨by simpa using h, by simp⟩⟩
theorem typ_i64 {n : Int} (h : IntKind.wrap .i64 n = n) : -9223372036854775808 ≤ n ∧ n ≤ 9223372036854775807 := by
  simp only [IntKind.wrap, IntKind.signed, IntKind.bits] at h
  simp at h
  omega
theorem v71 : Vc g71 300 Try.f71 cPart.T := by
  constructor
  rw [v71_eq]
  simp only [Wr_iff, bcase_iff, true_and, and_true, decide_eq_true_eq, decide_eq_false_iff_not, Bool.and_eq_true, Bool.and_eq_false_iff, Bool.or_eq_true, Bool.or_eq_false_iff, Bool.not_eq_true', Bool.not_eq_false', Option.map_some, Option.getD_some, Option.isSome_some, Option.isSome_map, imp_self, nilL, noneO]
  rintro ⟨⟨r, g, k, ⟨⟩⟩, n, ⟨⟩⟩ ht
  have h2 : (-9223372036854775808 ≤ k ∧ k ≤ 9223372036854775807) ∧ (-9223372036854775808 ≤ n ∧ n ≤ 9223372036854775807) := by
    simp only [typedB, Bool.and_eq_true, decide_eq_true_eq, Bool.true_and, Bool.and_true, and_true, true_and] at ht
    exact ⟨typ_i64 ht.1.2, typ_i64 ht.2⟩
  dsimp only
  have e : IntKind.wrap .i64 (max k 0 - max n 0) = max k 0 - max n 0 := wrap_id (by omega) (by omega)
  rw [e]
  simp only [partF, partC, partN, onF, decide_eq_true_eq, decide_eq_false_iff_not]
  constructor
  · rintro ⟨⟨h1, h2⟩, h3⟩
    simp [h1, h2, h3]
  · intro h
    rcases h with (h1 | h2) | h3
    · simp [h1]
    · simp [h2]
    · simp [h3]
theorem v70 : Vc g70 300 Try.f70 cStarts := by
  constructor
  rw [v70_eq]
  simp only [Wr_iff, bcase_iff, true_and, and_true, decide_eq_true_eq, decide_eq_false_iff_not, Bool.and_eq_true, Bool.and_eq_false_iff, Bool.or_eq_true, Bool.or_eq_false_iff, Bool.not_eq_true', Bool.not_eq_false', Option.map_some, Option.getD_some, Option.isSome_some, Option.isSome_map, imp_self, nilL, noneO]
  intro x _
  rfl
theorem v62 : Vc g62 300 Try.f62 cJoin := by
  constructor
  rw [v62_eq]
  simp only [Wr_iff, bcase_iff, true_and, and_true, decide_eq_true_eq, decide_eq_false_iff_not, Bool.and_eq_true, Bool.and_eq_false_iff, Bool.or_eq_true, Bool.or_eq_false_iff, Bool.not_eq_true', Bool.not_eq_false', Option.map_some, Option.getD_some, Option.isSome_some, Option.isSome_map, imp_self, nilL, noneO]
  rintro ⟨⟨r, g, k, ⟨⟩⟩, l, ⟨⟩⟩ ⟨h1, h2⟩
  dsimp only at *
  rw [h2, wrap_id (by omega) (by omega)]
  rfl
theorem v65 : Vc g65 300 Try.f65 cEnd := by
  constructor
  rw [v65_eq]
  simp only [Wr_iff, bcase_iff, true_and, and_true, decide_eq_true_eq, decide_eq_false_iff_not, Bool.and_eq_true, Bool.and_eq_false_iff, Bool.or_eq_true, Bool.or_eq_false_iff, Bool.not_eq_true', Bool.not_eq_false', Option.map_some, Option.getD_some, Option.isSome_some, Option.isSome_map, imp_self, nilL, noneO]
  intro x _
  rfl
theorem v44 : Vc g44 300 Try.f44 cBegin := by
  constructor
  rw [v44_eq]
  simp only [Wr_iff, bcase_iff, true_and, and_true, decide_eq_true_eq, decide_eq_false_iff_not, Bool.and_eq_true, Bool.and_eq_false_iff, Bool.or_eq_true, Bool.or_eq_false_iff, Bool.not_eq_true', Bool.not_eq_false', Option.map_some, Option.getD_some, Option.isSome_some, Option.isSome_map, imp_self, nilL, noneO]
  rintro ⟨⟨r, g, k, ⟨⟩⟩, n, ⟨⟩⟩ _
  simp only [beginF, beginE, onF, decide_eq_true_eq, decide_eq_false_iff_not]
  constructor
  · rintro (h | h) <;> simp [h]
  · rintro ⟨h1, h2⟩; simp [h1, h2]
theorem v30 : Vc g30 300 Try.f30 cFlCk := by
  constructor
  rw [v30_eq]
  simp only [Wr_iff, bcase_iff, true_and, and_true, decide_eq_true_eq, decide_eq_false_iff_not, Bool.and_eq_true, Bool.and_eq_false_iff, Bool.or_eq_true, Bool.or_eq_false_iff, Bool.not_eq_true', Bool.not_eq_false', Option.map_some, Option.getD_some, Option.isSome_some, Option.isSome_map, imp_self, nilL, noneO]
  rintro ⟨⟨r, g, k, ⟨⟩⟩, ⟨⟩⟩ _
  refine ⟨fun _ => trivial, ?_⟩
  simp only [flCk, flB, onF, decide_eq_true_eq, decide_eq_false_iff_not]
  constructor
  · rintro ((h | h) | ⟨h1, h2⟩)
    · simp [Int.not_le.2 h]
    · simp [Int.not_le.2 h]
    · simp [h1, h2]
  · rintro ⟨⟨h1, h2⟩, h3⟩
    rw [Int.not_lt] at h1 h2
    rcases h3 with h3 | h3
    · simp [h1, h2, h3]
    · simp [h1, h2, h3]
theorem v24 : Vc g24 300 Try.f24 cFlCk := by
  constructor
  rw [v24_eq]
  simp only [Wr_iff, bcase_iff, true_and, and_true, decide_eq_true_eq, decide_eq_false_iff_not, Bool.and_eq_true, Bool.and_eq_false_iff, Bool.or_eq_true, Bool.or_eq_false_iff, Bool.not_eq_true', Bool.not_eq_false', Option.map_some, Option.getD_some, Option.isSome_some, Option.isSome_map, imp_self, nilL, noneO]
  rintro ⟨⟨r, g, k, ⟨⟩⟩, ⟨⟩⟩ _
  simp only [flCk, flB, onF, decide_eq_true_eq, decide_eq_false_iff_not]
  constructor
  · rintro ((h | h) | ⟨h1, h2⟩)
    · simp [Int.not_le.2 h]
    · simp [Int.not_le.2 h]
    · simp [h1, Int.not_le.2 h2]
  · rintro ⟨⟨h1, h2⟩, h3⟩
    rw [Int.not_lt] at h1 h2
    rcases h3 with h3 | h3
    · simp [h1, h2, h3]
    · simp [h1, h2, Int.not_lt.1 h3]
theorem OwI.zero (l : List Rs) : OwI l 0 [] := ⟨by omega, by omega, rfl⟩
theorem OwI.succ {l : List Rs} {i : Int} {o : List Int} (h : OwI l i o) (hl : l.length ≤ 1000000) (hi : i < l.length) :
    OwI l (IntKind.wrap .i64 (i + 1)) (o ++ [(l.getD i.toNat (Ty.zero RestT)).1]) ∧ l.length - (IntKind.wrap .i64 (i + 1)).toNat < l.length - i.toNat := by
  have h0 := h.i0
  have e : IntKind.wrap .i64 (i + 1) = i + 1 := wrap_id (by omega) (by omega)
  rw [e]
  refine ⟨⟨by omega, by omega, ?_⟩, by omega⟩
  rw [take_succ l i (Ty.zero RestT) h0 hi, List.map_append, h.a]
  rfl
theorem OwI.len {l : List Rs} {i : Int} {o : List Int} (h : OwI l i o) : o.length ≤ l.length := by rw [h.a, List.length_map, List.length_take]; omega
theorem OwI.done {l : List Rs} {i : Int} {o : List Int} (h : OwI l i o) (hi : ¬ i < l.length) : o = l.map skOf := by
  rw [h.a, List.take_of_length_le (by have := h.i0; omega)]
theorem szB_iff (b : Bk) : szB b = true ↔ (b.2.1.length ≤ 1000000 ∧ b.2.2.1.length ≤ 1000000 ∧ b.2.2.2.1.length ≤ 1000000 ∧ b.2.2.2.2.2.1.length ≤ 1000000 ∧ b.2.2.2.2.1.2.2.1 ≤ 1152921504606846976) := by
  simp only [szB, szI, Bool.and_eq_true, decide_eq_true_eq]
theorem v13 : Vc g13 300 Try.f13 cOwns := by
  constructor
  rw [v13_eq]
  simp only [Wr_iff, bcase_iff, true_and, and_true, decide_eq_true_eq, decide_eq_false_iff_not, Bool.and_eq_true, Bool.and_eq_false_iff, Bool.or_eq_true, Bool.or_eq_false_iff, Bool.not_eq_true', Bool.not_eq_false', Option.map_some, Option.getD_some, Option.isSome_some, Option.isSome_map, imp_self, nilL, noneO]
  rintro ⟨b, ⟨⟩⟩ hb
  dsimp only at hb ⊢
  rw [szB_iff] at hb
  refine ⟨OwI.zero _, fun ⟨i, o⟩ hu => ⟨fun hi => ⟨hu.i0, hi, ?_, hu.succ hb.1 hi⟩, fun hi => ⟨?_, ?_⟩⟩⟩
  · have h2 : o.length ≤ _ := hu.len
    simp only [List.length_cons, List.length_nil]
    omega
  · have h2 : o.length ≤ _ := hu.len
    dsimp only
    omega
  · rw [ownsL, ← hu.done hi]
theorem v23 : Vc g23 300 Try.f23 cOwns := by
  constructor
  rw [v23_eq]
  simp only [Wr_iff, bcase_iff, true_and, and_true, decide_eq_true_eq, decide_eq_false_iff_not, Bool.and_eq_true, Bool.and_eq_false_iff, Bool.or_eq_true, Bool.or_eq_false_iff, Bool.not_eq_true', Bool.not_eq_false', Option.map_some, Option.getD_some, Option.isSome_some, Option.isSome_map, imp_self, nilL, noneO]
  rintro ⟨b, ⟨⟩⟩ hb
  dsimp only at hb ⊢
  rw [szB_iff] at hb
  refine ⟨OwI.zero _, fun ⟨i, o⟩ hu => ⟨fun hi => ⟨hu.i0, hi, ?_, hu.succ hb.1 hi⟩, fun hi => ⟨?_, ?_⟩⟩⟩
  · have h2 : o.length ≤ _ := hu.len
    simp only [List.length_cons, List.length_nil]
    omega
  · have h2 : o.length ≤ _ := hu.len
    dsimp only
    omega
  · rw [ownsL, ← hu.done hi]
theorem TwI.zero (l : List Int) : TwI l 0 := ⟨by omega, by omega, List.nodup_nil⟩
theorem notin_take {l : List Int} {i : Nat} (hi : i < l.length) (h : idxN (l.getD i 0) l = i) : l.getD i 0 ∉ l.take i := by
  intro hm
  obtain ⟨j, hj, he⟩ := List.mem_iff_getElem.1 hm
  rw [List.length_take] at hj
  rw [List.getElem_take] at he
  unfold idxN at h
  have ha : l.any (fun y => decide (y = l.getD i 0)) = true := List.any_eq_true.2 ⟨_, List.mem_of_mem_take hm, by simp⟩
  rw [ha, cond_true] at h
  have h2 : l.findIdx (fun y => decide (y = l.getD i 0)) = i := by omega
  have h3 := List.not_of_lt_findIdx (p := fun y => decide (y = l.getD i 0)) (xs := l) (i := j) (by omega)
  simp [he] at h3
theorem in_take {l : List Int} {i : Nat} (hi : i < l.length) (h : idxN (l.getD i 0) l ≠ i) : l.getD i 0 ∈ l.take i := by
  apply Classical.byContradiction
  intro hn
  apply h
  apply idx_split _ _ _ hi _ rfl
  rw [List.any_eq_false]
  intro y hy
  simp only [decide_eq_true_eq]
  intro e
  exact hn (e ▸ hy)
theorem TwI.succ {l : List Int} {i : Int} (h : TwI l i) (hl : l.length ≤ 3000000) (hi : i < l.length) (hx : idxN (l.getD i.toNat 0) l = i) :
    TwI l (IntKind.wrap .i64 (i + 1)) ∧ l.length - (IntKind.wrap .i64 (i + 1)).toNat < l.length - i.toNat := by
  have h0 := h.i0
  have e : IntKind.wrap .i64 (i + 1) = i + 1 := wrap_id (by omega) (by omega)
  rw [e]
  refine ⟨⟨by omega, by omega, ?_⟩, by omega⟩
  rw [take_succ l i 0 h0 hi, List.nodup_append]
  refine ⟨h.a, by simp, ?_⟩
  intro a ha b hb
  rw [List.mem_singleton] at hb
  subst hb
  intro e
  exact notin_take (i := i.toNat) (by omega) (by omega) (e ▸ ha)
theorem v25 : Vc g25 300 Try.f25 cTwice3 := by
  constructor
  rw [v25_eq]
  simp only [Wr_iff, bcase_iff, true_and, and_true, decide_eq_true_eq, decide_eq_false_iff_not, Bool.and_eq_true, Bool.and_eq_false_iff, Bool.or_eq_true, Bool.or_eq_false_iff, Bool.not_eq_true', Bool.not_eq_false', Option.map_some, Option.getD_some, Option.isSome_some, Option.isSome_map, imp_self, nilL, noneO]
  rintro ⟨l, ⟨⟩⟩ hl
  dsimp only at hl ⊢
  refine ⟨TwI.zero _, fun i hu => ⟨fun hi => ⟨hu.i0, hi, fun hg => ?_, fun hg => hu.succ hl hi hg⟩, fun hi => ?_⟩⟩
  · have h0 := hu.i0
    have hm := in_take (l := l) (i := i.toNat) (by omega) (by omega)
    have hn : ¬ l.Nodup := by
      intro hd
      have e := take_succ l i 0 h0 hi
      have hd2 : (l.take (i + 1).toNat).Nodup := List.Nodup.sublist (List.take_sublist _ _) hd
      rw [e, List.nodup_append] at hd2
      exact hd2.2.2 _ hm _ (List.mem_singleton.2 rfl) rfl
    rw [twB, decide_eq_false hn]; rfl
  · have e : l.take i.toNat = l := List.take_of_length_le (by have := hu.i0; omega)
    have hn := hu.a
    rw [e] at hn
    rw [twB, decide_eq_true hn]; rfl
theorem flCk_0 (f : Fl) : flCk f = 0 ↔ flB f = true := by unfold flCk; cases flB f <;> simp
theorem owns_len (b : Bk) : (ownsL b).length = b.2.1.length + b.2.2.1.length := by rw [ownsL, List.length_append, List.length_map]
theorem ck_yes {b : Bk} (h1 : flB b.2.2.2.2.1 = true) (h2 : b.2.2.2.2.1.2.2.1 = (b.2.2.2.1.length : Int)) (h3 : (b.2.1.length : Int) ≤ b.1.2.1) (h4 : (ownsL b).Nodup) (h5 : b.2.2.2.1.Nodup)
    (h6 : ¬ (0 < (b.2.2.2.1.length : Int) ∧ 0 < (b.2.1.length : Int))) (h7 : b.2.2.2.2.2.2.1 = false ∨ ¬ 0 < ((ownsL b).length : Int) + (b.2.2.2.1.length : Int)) : ckE b = 0 := by
  have : ckB b = true := by
    simp only [ckB, Bool.and_eq_true, Bool.or_eq_true, decide_eq_true_eq, Bool.not_eq_true']
    refine ⟨⟨⟨h1, h2⟩, h3, h4, h5⟩, by omega, ?_⟩
    rcases h7 with h7 | h7
    · exact Or.inl h7
    · exact Or.inr (by omega)
  rw [ckE, this]; rfl
theorem ck_no {b : Bk} (h : flB b.2.2.2.2.1 = true → b.2.2.2.2.1.2.2.1 = (b.2.2.2.1.length : Int) → (b.2.1.length : Int) ≤ b.1.2.1 → (ownsL b).Nodup → b.2.2.2.1.Nodup →
    ¬ (0 < (b.2.2.2.1.length : Int) ∧ 0 < (b.2.1.length : Int)) → (b.2.2.2.2.2.2.1 = false ∨ ¬ 0 < ((ownsL b).length : Int) + (b.2.2.2.1.length : Int)) → False) : ckE b = 2 := by
  have : ckB b = false := by
    rw [← Bool.not_eq_true]
    intro hk
    simp only [ckB, Bool.and_eq_true, Bool.or_eq_true, decide_eq_true_eq, Bool.not_eq_true'] at hk
    refine h hk.1.1.1 hk.1.1.2 hk.1.2.1 hk.1.2.2.1 hk.1.2.2.2 (by have := hk.2.1; omega) ?_
    rcases hk.2.2 with h7 | h7
    · exact Or.inl h7
    · exact Or.inr (by omega)
  rw [ckE, this]; rfl
theorem v10 : Vc g10 300 Try.f10 cCk := by
  constructor
  rw [v10_eq]
  simp only [Wr_iff, bcase_iff, true_and, and_true, decide_eq_true_eq, decide_eq_false_iff_not, Bool.and_eq_true, Bool.and_eq_false_iff, Bool.or_eq_true, Bool.or_eq_false_iff, Bool.not_eq_true', Bool.not_eq_false', Option.map_some, Option.getD_some, Option.isSome_some, Option.isSome_map, imp_self, nilL, noneO]
  rintro ⟨b, ⟨⟩⟩ hb
  dsimp only at hb ⊢
  have hs := hb
  rw [szB_iff] at hs
  have ho := owns_len b
  have ew : IntKind.wrap .i64 (((ownsL b).length : Int) + (b.2.2.2.1.length : Int)) = ((ownsL b).length : Int) + (b.2.2.2.1.length : Int) := wrap_id (by omega) (by omega)
  rw [ew]
  refine ⟨hb, fun _ => by omega, fun _ => by omega, fun h => ?_, fun h => ?_⟩
  · rw [ck_no]
    intro h1 h2 h3 h4 h5 h6 h7
    rcases h with (((((h | h) | h) | h) | h) | h) | h
    · exact h ((flCk_0 _).2 h1)
    · exact h h2
    · exact h h3
    · exact h h4
    · exact h h5
    · exact h6 h
    · rcases h7 with h7 | h7
      · rw [h7] at h; exact absurd h.1 (by decide)
      · exact h7 h.2
  · obtain ⟨⟨⟨⟨⟨⟨h1, h2⟩, h3⟩, h4⟩, h5⟩, h6⟩, h7⟩ := h
    rw [ck_yes ((flCk_0 _).1 h1) h2 h3 h4 h5 (by omega) (by rcases h7 with h7 | h7; exact Or.inl h7; exact Or.inr (by omega))]
theorem tw_t (l : List Int) : twB l = true ↔ ¬ l.Nodup := by unfold twB; simp
theorem tw_f (l : List Int) : twB l = false ↔ l.Nodup := by unfold twB; simp
theorem v7 : Vc g7 300 Try.f7 cCk := by
  constructor
  rw [v7_eq]
  simp only [Wr_iff, bcase_iff, true_and, and_true, decide_eq_true_eq, decide_eq_false_iff_not, Bool.and_eq_true, Bool.and_eq_false_iff, Bool.or_eq_true, Bool.or_eq_false_iff, Bool.not_eq_true', Bool.not_eq_false', Option.map_some, Option.getD_some, Option.isSome_some, Option.isSome_map, imp_self, nilL, noneO]
  rintro ⟨b, ⟨⟩⟩ hb
  dsimp only at hb ⊢
  have hs := hb
  rw [szB_iff] at hs
  have ho := owns_len b
  have ew : IntKind.wrap .i64 (((ownsL b).length : Int) + (b.2.2.2.1.length : Int)) = ((ownsL b).length : Int) + (b.2.2.2.1.length : Int) := wrap_id (by omega) (by omega)
  rw [ew]
  refine ⟨hb, fun _ => by omega, fun _ => by omega, fun h => ?_, fun h => ?_⟩
  · rw [ck_no]
    intro h1 h2 h3 h4 h5 h6 h7
    rcases h with (((((h | h) | h) | h) | h) | h) | h
    · exact h ((flCk_0 _).2 h1)
    · exact h h2
    · omega
    · exact (tw_t _).1 h h4
    · exact (tw_t _).1 h h5
    · exact h6 h
    · rcases h7 with h7 | h7
      · rw [h7] at h; exact absurd h.1 (by decide)
      · exact h7 h.2
  · obtain ⟨⟨⟨⟨⟨⟨h1, h2⟩, h3⟩, h4⟩, h5⟩, h6⟩, h7⟩ := h
    rw [ck_yes (b := b) ((flCk_0 _).1 h1) h2 (by omega) ((tw_f _).1 h4) ((tw_f _).1 h5) (by omega) (by rcases h7 with h7 | h7; exact Or.inl h7; exact Or.inr (by omega))]
theorem v6 : Vc g6 300 Try.f6 cGreat := by
  constructor
  rw [v6_eq]
  simp only [Wr_iff, bcase_iff, true_and, and_true, decide_eq_true_eq, decide_eq_false_iff_not, Bool.and_eq_true, Bool.and_eq_false_iff, Bool.or_eq_true, Bool.or_eq_false_iff, Bool.not_eq_true', Bool.not_eq_false', Option.map_some, Option.getD_some, Option.isSome_some, Option.isSome_map, imp_self, nilL, noneO]
  rintro ⟨b, ⟨⟩⟩ _
  dsimp only
  rw [greatB]
  congr 1
  rw [Bool.eq_iff_iff]
  simp only [Bool.or_eq_true, decide_eq_true_eq]
  omega
theorem EqI.zero {α : Type} (l : List α) : EqI l 0 := ⟨by omega, by omega⟩
theorem EqI.succ {α : Type} {l : List α} {i : Int} (h : EqI l i) (hl : l.length ≤ 9223372036854775807) (hi : i < l.length) :
    EqI l (IntKind.wrap .i64 (i + 1)) ∧ l.length - (IntKind.wrap .i64 (i + 1)).toNat < l.length - i.toNat := by
  have h0 := h.i0
  have e : IntKind.wrap .i64 (i + 1) = i + 1 := wrap_id (by omega) (by omega)
  rw [e]
  exact ⟨⟨by omega, by omega⟩, by omega⟩
theorem typ_sl {t : Ty} {a b : List t.El} (h : typedB (.cons (.sl t) (.cons (.sl t) .unit)) (a, b, ()) = true) : a.length ≤ 9223372036854775807 := by
  simp only [typedB, Bool.and_eq_true, decide_eq_true_eq] at h
  exact h.1.1
theorem v33 : Vc g33 300 Try.f33 (cSam I64).T := by
  constructor
  rw [v33_eq]
  simp only [Wr_iff, bcase_iff, true_and, and_true, decide_eq_true_eq, decide_eq_false_iff_not, Bool.and_eq_true, Bool.and_eq_false_iff, Bool.or_eq_true, Bool.or_eq_false_iff, Bool.not_eq_true', Bool.not_eq_false', Option.map_some, Option.getD_some, Option.isSome_some, Option.isSome_map, imp_self, nilL, noneO]
  rintro ⟨l, l', ⟨⟩⟩ ⟨ht, he⟩
  dsimp only at he
  subst he
  have hl := typ_sl ht
  dsimp only
  exact ⟨fun h => absurd rfl h, fun _ => ⟨EqI.zero _, fun i hu => ⟨fun hi => ⟨hu.i0, hi, hu.i0, hi, fun h => absurd rfl h, fun _ => hu.succ hl hi⟩, fun _ => trivial⟩⟩⟩
theorem v12 : Vc g12 300 Try.f12 (cSam I64).T := by
  constructor
  rw [v12_eq]
  simp only [Wr_iff, bcase_iff, true_and, and_true, decide_eq_true_eq, decide_eq_false_iff_not, Bool.and_eq_true, Bool.and_eq_false_iff, Bool.or_eq_true, Bool.or_eq_false_iff, Bool.not_eq_true', Bool.not_eq_false', Option.map_some, Option.getD_some, Option.isSome_some, Option.isSome_map, imp_self, nilL, noneO]
  rintro ⟨l, l', ⟨⟩⟩ ⟨ht, he⟩
  dsimp only at he
  subst he
  have hl := typ_sl ht
  dsimp only
  exact ⟨fun h => absurd rfl h, fun _ => ⟨EqI.zero _, fun i hu => ⟨fun hi => ⟨hu.i0, hi, hu.i0, hi, fun h => absurd rfl h, fun _ => hu.succ hl hi⟩, fun _ => trivial⟩⟩⟩
theorem kR : keyable RestT = true := by decide
theorem kS : keyable ScT = true := by decide
theorem v54 : Vc g54 300 Try.f54 (cSam RestT).T := by
  constructor
  rw [v54_eq]
  simp only [Wr_iff, bcase_iff, true_and, and_true, decide_eq_true_eq, decide_eq_false_iff_not, Bool.and_eq_true, Bool.and_eq_false_iff, Bool.or_eq_true, Bool.or_eq_false_iff, Bool.not_eq_true', Bool.not_eq_false', Option.map_some, Option.getD_some, Option.isSome_some, Option.isSome_map, imp_self, nilL, noneO]
  rintro ⟨l, l', ⟨⟩⟩ ⟨ht, he⟩
  dsimp only at he
  subst he
  have hl := typ_sl ht
  dsimp only
  exact ⟨fun h => absurd rfl h, fun _ => ⟨EqI.zero _, fun i hu => ⟨fun hi => ⟨hu.i0, hi, hu.i0, hi, fun h => absurd ((eqb_iff RestT kR _ _).2 rfl) (by rw [h]; decide), fun _ => hu.succ hl hi⟩, fun _ => trivial⟩⟩⟩
theorem v55 : Vc g55 300 Try.f55 (cSam ScT).T := by
  constructor
  rw [v55_eq]
  simp only [Wr_iff, bcase_iff, true_and, and_true, decide_eq_true_eq, decide_eq_false_iff_not, Bool.and_eq_true, Bool.and_eq_false_iff, Bool.or_eq_true, Bool.or_eq_false_iff, Bool.not_eq_true', Bool.not_eq_false', Option.map_some, Option.getD_some, Option.isSome_some, Option.isSome_map, imp_self, nilL, noneO]
  rintro ⟨l, l', ⟨⟩⟩ ⟨ht, he⟩
  dsimp only at he
  subst he
  have hl := typ_sl ht
  dsimp only
  exact ⟨fun h => absurd rfl h, fun _ => ⟨EqI.zero _, fun i hu => ⟨fun hi => ⟨hu.i0, hi, hu.i0, hi, fun h => absurd ((eqb_iff ScT kS _ _).2 rfl) (by rw [h]; decide), fun _ => hu.succ hl hi⟩, fun _ => trivial⟩⟩⟩
theorem v32 : Vc g32 300 Try.f32 (cSam RestT) := by
  constructor
  rw [v32_eq]
  simp only [Wr_iff, bcase_iff, true_and, and_true, decide_eq_true_eq, decide_eq_false_iff_not, Bool.and_eq_true, Bool.and_eq_false_iff, Bool.or_eq_true, Bool.or_eq_false_iff, Bool.not_eq_true', Bool.not_eq_false', Option.map_some, Option.getD_some, Option.isSome_some, Option.isSome_map, imp_self, nilL, noneO]
  intro x
  first | exact trivial | exact fun h => h
theorem v34 : Vc g34 300 Try.f34 (cSam ScT) := by
  constructor
  rw [v34_eq]
  simp only [Wr_iff, bcase_iff, true_and, and_true, decide_eq_true_eq, decide_eq_false_iff_not, Bool.and_eq_true, Bool.and_eq_false_iff, Bool.or_eq_true, Bool.or_eq_false_iff, Bool.not_eq_true', Bool.not_eq_false', Option.map_some, Option.getD_some, Option.isSome_some, Option.isSome_map, imp_self, nilL, noneO]
  intro x
  first | exact trivial | exact fun h => h
theorem v11 : Vc g11 300 Try.f11 cSameB := by
  constructor
  rw [v11_eq]
  simp only [Wr_iff, bcase_iff, true_and, and_true, decide_eq_true_eq, decide_eq_false_iff_not, Bool.and_eq_true, Bool.and_eq_false_iff, Bool.or_eq_true, Bool.or_eq_false_iff, Bool.not_eq_true', Bool.not_eq_false', Option.map_some, Option.getD_some, Option.isSome_some, Option.isSome_map, imp_self, nilL, noneO]
  rintro ⟨b, b', ⟨⟩⟩ he
  dsimp only at he
  subst he
  dsimp only
  exact ⟨fun _ => rfl, fun _ => rfl, fun _ => rfl, fun _ => rfl, by
    have e1 : ConfT.eqb b.1 b.1 = true := (eqb_iff ConfT (by decide) _ _).2 rfl
    have e2 : FlT.eqb b.2.2.2.2.1 b.2.2.2.2.1 = true := (eqb_iff FlT (by decide) _ _).2 rfl
    refine Prod.ext ?_ rfl
    rw [Bool.and_true, Bool.and_true, Bool.and_true, Bool.and_true, beq_self_eq_true, Bool.and_true]
    exact (Bool.and_eq_true _ _).mpr ⟨e1, e2⟩⟩
theorem idx_cases (x : Int) (l : List Int) : idxN x l = -1 ∨ (0 ≤ idxN x l ∧ idxN x l < l.length) := by
  unfold idxN
  cases h : l.any (fun y => decide (y = x)) with
  | false => exact Or.inl rfl
  | true =>
    right
    rw [cond_true]
    refine ⟨by omega, ?_⟩
    have := List.findIdx_lt_length.2 (List.any_eq_true.1 h)
    omega
theorem v9 : Vc g9 300 Try.f9 cQuit := by
  constructor
  rw [v9_eq]
  simp only [Wr_iff, bcase_iff, true_and, and_true, decide_eq_true_eq, decide_eq_false_iff_not, Bool.and_eq_true, Bool.and_eq_false_iff, Bool.or_eq_true, Bool.or_eq_false_iff, Bool.not_eq_true', Bool.not_eq_false', Option.map_some, Option.getD_some, Option.isSome_some, Option.isSome_map, imp_self, nilL, noneO]
  rintro ⟨b, c, ⟨⟩⟩ hb
  dsimp only at hb ⊢
  simp only [okW, szI, decide_eq_true_eq] at hb
  have hi := idx_cases c b.2.2.2.1
  refine ⟨fun h => ?_, fun h => ?_⟩
  · have e : IntKind.wrap .i64 (idxN c b.2.2.2.1 + 1) = idxN c b.2.2.2.1 + 1 := wrap_id (by omega) (by omega)
    rw [e]
    refine ⟨by omega, ⟨h, by omega, by omega, by omega⟩, by simp, fun _ => trivial, ?_⟩
    rw [quitT, quitB, decide_eq_true (show 0 ≤ idxN c b.2.2.2.1 from h)]
    rfl
  · refine ⟨fun _ => trivial, ?_⟩
    rw [quitT, quitB, decide_eq_false h]
    rfl
end Go.Proofs.Ytdkcgcgefgeooaa.Bk
/-
  DERIVED: THE SHELF's CONTRACTS AT THIS DUMP, IN PLAIN WORDS (tools/lay-plain.mjs out of 'TryShCut.lean', which tools/lay-shelf.mjs wrote): THE SAME DECLARATIONS UNDER THE SAME NAMES: 'import', 'namespace', 'open', 'def', 'theorem' AND NOTHING ELSE: no command of the shelf's: FOR A HAND-IN. Each laying: the table of numbers ('.._ren') and one theorem, a field a fact of the dump's own or the kernel's comparison; each contract: ONE APPLICATION.
-/
namespace Go.Proofs
open Go.Shelf
def Try.lays189_ren : Go.Shelf.Ren := ⟨fun | 189 => 73 | 125 => 84 | 257 => 83 | 128 => 100 | 129 => 101 | 294 => 91 | 295 => 92 | 296 => 93 | 297 => 94 | 298 => 95 | 299 => 96 | 216 => 97 | 300 => 98 | 301 => 99 | 328 => 105 | 329 => 106 | 330 => 107 | 331 => 108 | 332 => 109 | 215 => 110 | 343 => 111 | n => n, fun | 28 => 25 | 3 => 3 | 46 => 129 | 0 => 0 | 51 => 145 | 53 => 147 | 4 => 4 | 183 => 137 | 182 => 136 | 131 => 142 | 5 => 5 | 9 => 9 | 218 => 152 | 222 => 156 | 228 => 158 | 229 => 159 | n => n, fun | n => n⟩
theorem Try.lays189 : Go.Proofs.Lays.n189 Try.prog Try.lays189_ren := {
  mixed := by kernel_rfl
  f125 := Try.func84.trans (congrArg some (by kernel_rfl))
  f128 := Try.func100.trans (congrArg some (by kernel_rfl))
  f129 := Try.func101.trans (congrArg some (by kernel_rfl))
  f189 := Try.func73.trans (congrArg some (by kernel_rfl))
  f215 := Try.func110.trans (congrArg some (by kernel_rfl))
  f216 := Try.func97.trans (congrArg some (by kernel_rfl))
  f257 := Try.func83.trans (congrArg some (by kernel_rfl))
  f294 := Try.func91.trans (congrArg some (by kernel_rfl))
  f295 := Try.func92.trans (congrArg some (by kernel_rfl))
  f296 := Try.func93.trans (congrArg some (by kernel_rfl))
  f297 := Try.func94.trans (congrArg some (by kernel_rfl))
  f298 := Try.func95.trans (congrArg some (by kernel_rfl))
  f299 := Try.func96.trans (congrArg some (by kernel_rfl))
  f300 := Try.func98.trans (congrArg some (by kernel_rfl))
  f301 := Try.func99.trans (congrArg some (by kernel_rfl))
  f328 := Try.func105.trans (congrArg some (by kernel_rfl))
  f329 := Try.func106.trans (congrArg some (by kernel_rfl))
  f330 := Try.func107.trans (congrArg some (by kernel_rfl))
  f331 := Try.func108.trans (congrArg some (by kernel_rfl))
  f332 := Try.func109.trans (congrArg some (by kernel_rfl))
  f343 := Try.func111.trans (congrArg some (by kernel_rfl))
  t0 := Try.underlying0
  a0 := Try.isAgg0
  z0 := Try.sizeOf0
  v0 := Try.zeroValue0
  t3 := Try.underlying3
  a3 := Try.isAgg3
  z3 := Try.sizeOf3
  v3 := Try.zeroValue3
  t4 := Try.underlying4
  a4 := Try.isAgg4
  z4 := Try.sizeOf4
  v4 := Try.zeroValue4
  t5 := Try.underlying5
  a5 := Try.isAgg5
  z5 := Try.sizeOf5
  v5 := Try.zeroValue5
  t9 := Try.underlying9
  a9 := Try.isAgg9
  z9 := Try.sizeOf9
  v9 := Try.zeroValue9
  t28 := Try.underlying25
  a28 := Try.isAgg25
  z28 := Try.sizeOf25
  v28 := Try.zeroValue25
  t46 := Try.underlying129
  a46 := Try.isAgg129
  z46 := Try.sizeOf129
  v46 := Try.zeroValue129
  t51 := Try.underlying145
  a51 := Try.isAgg145
  z51 := Try.sizeOf145
  v51 := Try.zeroValue145
  t53 := Try.underlying147
  a53 := Try.isAgg147
  z53 := Try.sizeOf147
  v53 := Try.zeroValue147
  t131 := Try.underlying142
  a131 := Try.isAgg142
  z131 := Try.sizeOf142
  v131 := Try.zeroValue142
  t182 := Try.underlying136
  a182 := Try.isAgg136
  z182 := Try.sizeOf136
  v182 := Try.zeroValue136
  t183 := Try.underlying137
  a183 := Try.isAgg137
  z183 := Try.sizeOf137
  v183 := Try.zeroValue137
  t218 := Try.underlying152
  a218 := Try.isAgg152
  z218 := Try.sizeOf152
  v218 := Try.zeroValue152
  t222 := Try.underlying156
  a222 := Try.isAgg156
  z222 := Try.sizeOf156
  v222 := Try.zeroValue156
  t228 := Try.underlying158
  a228 := Try.isAgg158
  z228 := Try.sizeOf158
  v228 := Try.zeroValue158
  t229 := Try.underlying159
  a229 := Try.isAgg159
  z229 := Try.sizeOf159
  v229 := Try.zeroValue159 }
open Go.Sort Go.RowKit in
theorem Try.slices_Sort_int (blk off cap : Nat) (zs : List Int) (w : World) (hH : Holds (Value.int .i64) w blk off zs.toArray) (hblk : blk < w.heap.size) (hsz : zs.length < 4611686018427387904) :
    Calls Try.prog 73 #[.slice (some ⟨blk, off, none⟩) zs.length cap] w fun e w' =>
      e = .returned (.tuple #[]) ∧ ∃ n os, w' = grow (putRow (Value.int .i64) (Sort.ahead w n) blk off (zs.mergeSort fun x y => decide (x ≤ y)).toArray) os := Any.slices_Sort_int Try.lays189 blk off cap zs w hH hblk hsz
def Try.laysNm220_ren : Go.Shelf.Ren := ⟨fun | 20 => 53 | n => n, fun | 22 => 25 | 3 => 3 | 4 => 4 | 0 => 0 | n => n, fun | n => n⟩
theorem Try.laysNm220 : Go.Proofs.Lays2.n20 Try.prog Try.laysNm220_ren := {
  mixed := by kernel_rfl
  f20 := Try.func53.trans (congrArg some (by kernel_rfl))
  t0 := Try.underlying0
  a0 := Try.isAgg0
  z0 := Try.sizeOf0
  v0 := Try.zeroValue0
  t3 := Try.underlying3
  a3 := Try.isAgg3
  z3 := Try.sizeOf3
  v3 := Try.zeroValue3
  t4 := Try.underlying4
  a4 := Try.isAgg4
  z4 := Try.sizeOf4
  v4 := Try.zeroValue4
  t22 := Try.underlying25
  a22 := Try.isAgg25
  z22 := Try.sizeOf25
  v22 := Try.zeroValue25
  i3 := by kernel_rfl }
open Go.RowKit Go.Lib Go.Sort in
/-- slices.Compact at []int, over an array: the library's two loops are walked. (LAID: no walk: one application.) -/
theorem Try.slices_Compact_int_arr (blk off cap : Nat) (d : Array Int) (w : World) (hH : Holds encI w blk off d) (hsz : d.size ≤ 9223372036854775807) (hcap : d.size ≤ cap) :
    Calls Try.prog 53 #[.slice (some ⟨blk, off, none⟩) d.size cap] w fun e w' => e = .returned (.slice (some ⟨blk, off, none⟩) (compactUpTo d d.size).length cap) ∧ ∃ q, w' = putRow encI (Sort.ahead w q) blk off (compactUpTo d d.size ++ List.replicate (d.size - (compactUpTo d d.size).length) 0).toArray := Any.slices_Compact_int_arr Try.laysNm220 blk off cap d w hH hsz hcap
open Go.RowKit Go.Lib Go.Sort in
theorem Try.slices_Compact_int (blk off cap : Nat) (zs : List Int) (w : World) (hH : Holds (Value.int .i64) w blk off zs.toArray) (hsz : zs.length ≤ 9223372036854775807) (hcap : zs.length ≤ cap) :
    Calls Try.prog 53 #[.slice (some ⟨blk, off, none⟩) zs.length cap] w fun e w' => e = .returned (.slice (some ⟨blk, off, none⟩) (Lib.compact zs).length cap) ∧ ∃ q, w' = putRow (Value.int .i64) (Sort.ahead w q) blk off (Lib.compact zs ++ List.replicate (zs.length - (Lib.compact zs).length) 0).toArray := Any.slices_Compact_int Try.laysNm220 blk off cap zs w hH hsz hcap
open Go.RowKit Go.Lib Go.Sort in
/-- The same at a slice of length 0, a nil one too: it comes back as it is. (LAID: no walk: one application.) -/
theorem Try.slices_Compact_int_empty (a : Option Addr) (cap : Nat) (w : World) :
    Calls Try.prog 53 #[.slice a 0 cap] w fun e w' => e = .returned (.slice a 0 cap) ∧ w' = w := Any.slices_Compact_int_empty Try.laysNm220 a cap w
def Try.laysNm223_ren : Go.Shelf.Ren := ⟨fun | 23 => 47 | n => n, fun | 22 => 25 | 3 => 3 | 4 => 4 | 0 => 0 | n => n, fun | n => n⟩
theorem Try.laysNm223 : Go.Proofs.Lays2.n23 Try.prog Try.laysNm223_ren := {
  mixed := by kernel_rfl
  f23 := Try.func47.trans (congrArg some (by kernel_rfl))
  t0 := Try.underlying0
  a0 := Try.isAgg0
  z0 := Try.sizeOf0
  v0 := Try.zeroValue0
  t3 := Try.underlying3
  a3 := Try.isAgg3
  z3 := Try.sizeOf3
  v3 := Try.zeroValue3
  t4 := Try.underlying4
  a4 := Try.isAgg4
  z4 := Try.sizeOf4
  v4 := Try.zeroValue4
  t22 := Try.underlying25
  a22 := Try.isAgg25
  z22 := Try.sizeOf25
  v22 := Try.zeroValue25
  i3 := by kernel_rfl }
open Go.RowKit Go.Lib Go.Sort in
/-- slices.Delete at []int, over an array. (LAID: no walk: one application.) -/
theorem Try.slices_Delete_int_arr (blk off cap i j : Nat) (d : Array Int) (w : World) (hH : Holds encI w blk off d) (hcap : d.size ≤ cap) (hm : cap ≤ 9223372036854775807) (hij : i ≤ j) (hj : j ≤ d.size) :
    Calls Try.prog 47 #[.slice (some ⟨blk, off, none⟩) d.size cap, .int .i64 i, .int .i64 j] w fun e w' => e = .returned (.slice (some ⟨blk, off, none⟩) (d.size - (j - i)) cap) ∧ ∃ q, w' = putRow encI (Sort.ahead w q) blk off (d.toList.take i ++ d.toList.drop j ++ List.replicate (j - i) 0).toArray := Any.slices_Delete_int_arr Try.laysNm223 blk off cap i j d w hH hcap hm hij hj
open Go.RowKit Go.Lib Go.Sort in
theorem Try.slices_Delete_int (blk off cap i j : Nat) (zs : List Int) (w : World) (hH : Holds (Value.int .i64) w blk off zs.toArray) (hcap : zs.length ≤ cap) (hm : cap ≤ 9223372036854775807) (hij : i ≤ j) (hj : j ≤ zs.length) :
    Calls Try.prog 47 #[.slice (some ⟨blk, off, none⟩) zs.length cap, .int .i64 i, .int .i64 j] w fun e w' => e = .returned (.slice (some ⟨blk, off, none⟩) (zs.length - (j - i)) cap) ∧ ∃ q, w' = putRow (Value.int .i64) (Sort.ahead w q) blk off (zs.take i ++ zs.drop j ++ List.replicate (j - i) 0).toArray := Any.slices_Delete_int Try.laysNm223 blk off cap i j zs w hH hcap hm hij hj
open Go.RowKit Go.Sort in
/-- .. and plain. (LAID: no walk: one application.) -/
theorem Try.slices_Sort_int_none (p : Option Addr) (cap : Nat) (w : World) :
    Calls Try.prog 73 #[.slice p 0 cap] w fun e w' => e = .returned (.tuple #[]) ∧ w' = w := Any.slices_Sort_int_none Try.lays189 p cap w
open Go.RowKit Go.Lib in
/-- slices.Delete at []int of no element ('Delete(s, 0, 0)'): s comes back; the world is as it was. (LAID: no walk: one application.) -/
theorem Try.slices_Delete_int_empty (a : Option Addr) (c : Nat) (w : World) :
    Calls Try.prog 47 #[.slice a 0 c, .int .i64 0, .int .i64 0] w fun e w' => e = .returned (.slice a 0 c) ∧ w' = w := Any.slices_Delete_int_empty Try.laysNm223 a c w
end Go.Proofs
set_option linter.all false
set_option maxRecDepth 100000
namespace Go.Proofs.Ytdkcgcgefgeooaa.Bk
open Go Go.Eng Go.Proofs Go.Sort Go.RowKit
/-- rows of numbers -/
theorem rdl_int {P : Program} {S : Nat → Prop} {w : World} : ∀ {xs : List Int} {cs : List Value}, RdL P I64 S w xs cs → cs = xs.map (Value.int .i64) ∧ ∀ x ∈ xs, IntKind.wrap .i64 x = x
  | [], cs, h => ⟨h, fun x hx => by cases hx⟩
  | x :: r, cs, h => by
    obtain ⟨c1, c2, rfl, h1, h2⟩ := h
    obtain ⟨e, hr⟩ := rdl_int h2
    refine ⟨?_, fun y hy => ?_⟩
    · rw [List.map_cons, e, h1.1]; rfl
    · rcases List.mem_cons.1 hy with rfl | hy
      · exact h1.2
      · exact hr y hy
theorem rdl_int_of {P : Program} {S : Nat → Prop} {w : World} : ∀ {xs : List Int}, (∀ x ∈ xs, IntKind.wrap .i64 x = x) → RdL P I64 S w xs (xs.map (Value.int .i64))
  | [], _ => rfl
  | x :: r, h => ⟨[.int .i64 x], _, rfl, ⟨rfl, h x List.mem_cons_self⟩, rdl_int_of fun y hy => h y (List.mem_cons_of_mem _ hy)⟩
/-- a row of numbers at the head of a block, as a value of the engine's -/
theorem rdc_row {P : Program} {S : Nat → Prop} {w : World} {g cap : Nat} {cur : Array Value} {e : TypeId} {xs zs : List Int} {fr : Nat × Nat} (hS : S g) (hb : w.heap[g]? = some (.cells cur e fr)) (hcap : xs.length ≤ cap) (hmax : cap ≤ maxLen) (hw : ∀ x ∈ xs, IntKind.wrap .i64 x = x)
    (ht : cur.toList.take zs.length = zs.map (Value.int .i64)) (hp : ∃ r, zs = xs ++ r) : RdC P (.sl I64) S w xs [.slice (some ⟨g, 0, none⟩) xs.length cap] := by
  refine ⟨_, cap, rfl, hcap, hmax, fun _ => ⟨g, 0, rfl, hS, fun i x hx => ⟨[.int .i64 x], ⟨rfl, hw x (List.mem_of_getElem? hx)⟩, ?_⟩⟩⟩
  obtain ⟨r, rfl⟩ := hp
  have hi := (List.getElem?_eq_some_iff.1 hx).1
  intro j v hj
  have hj0 : j = 0 := by
    have := (List.getElem?_eq_some_iff.1 hj).1
    simp at this; exact this
  subst hj0
  have hv : v = .int .i64 x := by simpa using hj.symm
  subst hv
  have h1 : (cur.toList.take (xs ++ r).length)[i]? = some (.int .i64 x) := by
    rw [ht, List.getElem?_map, List.getElem?_append_left hi, hx]; rfl
  have h2 : cur[i]? = some (.int .i64 x) := by
    rw [List.getElem?_take_of_lt (by rw [List.length_append]; omega), Array.getElem?_toList] at h1
    exact h1
  have hz : 0 + i * Ty.size I64 + 0 = i := by show 0 + i * 1 + 0 = i; omega
  rw [hz]
  simp only [World.cell?, hb, Option.isSome_none, Bool.false_eq_true, if_false, h2]
theorem del_at (w : World) (base : Nat) (S : Nat → Prop) (v : Value) (xs : List Int) (cs : List Value) (a b : Nat) (hown : w.ownsRow base 3 1 v xs.length cs) (hcs : cs = xs.map (Value.int .i64)) (hw : ∀ x ∈ xs, IntKind.wrap .i64 x = x) (p1 : a ≤ b) (p2 : b ≤ xs.length) (p3 : xs.length ≤ 1000000000) :
    Calls Try.prog 47 #[v, .int .i64 a, .int .i64 b] w fun e w' => w.grownBy w' v.ownBlock ∧ ∃ r, e = .returned r ∧ RdC Try.prog (.sl I64) (fun b => S b ∨ (w.heap.size ≤ b ∧ b < w'.heap.size) ∨ v.ownBlock = some b) w' (xs.take a ++ xs.drop b) [r] := by
  have hel : (xs.take a ++ xs.drop b).length = xs.length - (b - a) := by rw [List.length_append, List.length_take, List.length_drop]; omega
  have hwF : ∀ x ∈ xs.take a ++ xs.drop b, IntKind.wrap .i64 x = x := fun x hx => by
    rcases List.mem_append.1 hx with hx | hx
    · exact hw x (List.mem_of_mem_take hx)
    · exact hw x (List.mem_of_mem_drop hx)
  rcases hown.2 with ⟨rfl, hn⟩ | ⟨g, cap, cur, rfl, hg, hh, hcap, hmax, hsz, htk⟩
  · obtain rfl : xs = [] := List.length_eq_zero_iff.1 hn
    have hb0 : b = 0 := by simpa using p2
    subst hb0
    have ha0 : a = 0 := by omega
    subst ha0
    refine Calls.mono (Try.slices_Delete_int_empty none 0 w) ?_
    rintro e w' ⟨rfl, rfl⟩
    exact ⟨⟨rfl, rfl, rfl, Nat.le_refl _, fun _ _ _ => rfl⟩, _, rfl, ⟨none, 0, rfl, by simp, by simp [maxLen], fun h => absurd rfl h⟩⟩
  · have hlt : g < w.heap.size := (Array.getElem?_eq_some_iff.1 hh).1
    have htk' : cur.toList.take xs.length = xs.map (Value.int .i64) := by
      rw [← hcs, ← htk, Nat.mul_one]
    have hH := holds_of_blockI hh htk'
    have hcall := Try.slices_Delete_int g 0 cap a b xs w hH hcap hmax p1 p2
    refine Calls.mono hcall ?_
    rintro e w' ⟨rfl, n, rfl⟩
    have hg0 := grownBy_sortedI (w := w) (g := g) (n := n) (os := #[]) (xs.take a ++ xs.drop b ++ List.replicate (b - a) 0).toArray
    rw [grow_empty] at hg0
    have hh2 := heap_sortedI (w := w) (n := n) (os := #[]) (xs.take a ++ xs.drop b ++ List.replicate (b - a) 0).toArray hh
    rw [grow_empty] at hh2
    have hzl : (xs.take a ++ xs.drop b ++ List.replicate (b - a) (0 : Int)).length = xs.length := by rw [List.length_append, hel, List.length_replicate]; omega
    refine ⟨hg0, _, rfl, ?_⟩
    have hcsz : cur.size = cap := by rw [hsz]; omega
    have htp := take_putCellsI cur (xs.take a ++ xs.drop b ++ List.replicate (b - a) (0 : Int)) (by rw [hzl]; omega)
    generalize putRow (Value.int .i64) (Sort.ahead w n) g 0 (xs.take a ++ xs.drop b ++ List.replicate (b - a) 0).toArray = W' at hg0 hh2 ⊢
    generalize putCells (Value.int .i64) 0 (xs.take a ++ xs.drop b ++ List.replicate (b - a) 0).toArray cur = cur' at hh2 htp
    rw [← hel]
    exact rdc_row (.inr (.inr rfl)) hh2 (by rw [hel]; omega) hmax hwF htp ⟨_, rfl⟩
theorem del_pre {i j : Int} {n : Nat} (h : 0 ≤ i ∧ i ≤ j ∧ j ≤ n ∧ n ≤ 1000000000) : ∃ a b : Nat, i = a ∧ j = b ∧ a ≤ b ∧ b ≤ n ∧ n ≤ 1000000000 := ⟨i.toNat, j.toNat, by omega, by omega, by omega, by omega, h.2.2.2⟩
theorem mval47 : MValid Try.prog GW 47 mDel := by
  refine ⟨⟨Try.f47, Try.func47, by kernel_rfl, rfl⟩, fun w _ base S v xs cs y ys hb hz h1 hown hrl hns hys hpre => ?_⟩
  obtain ⟨i, j, ⟨⟩⟩ := y
  obtain ⟨hcs, hw⟩ := rdl_int hrl
  obtain ⟨c1, c2, rfl, ⟨rfl, _⟩, c3, c4, rfl, ⟨rfl, _⟩, rfl⟩ := hys
  obtain ⟨a, b, rfl, rfl, p1, p2, p3⟩ := del_pre hpre
  refine Calls.mono (del_at w base S v xs cs a b hown hcs hw p1 p2 p3) ?_
  rintro e w' ⟨hg, r, rfl, hr⟩
  exact ⟨hg, .inl ⟨rfl, r, rfl, hr⟩⟩
end Go.Proofs.Ytdkcgcgefgeooaa.Bk
set_option linter.all false
namespace Go.Proofs.Ytdkcgcgefgeooaa.Bk
open Go.RowKit Go.Shelf Go.Eng
attribute [local go_sem] Oper.semAt_some
abbrev W0 := Fence.wide
theorem wide_fn (f : FuncId) : W0.fn f := by trivial
theorem wide_ro : W0.round = none := rfl
def upto {α : Type} (f : Nat → α) (k : Nat) : List α := (List.range k).map f
theorem upto_succ {α : Type} (f : Nat → α) (k : Nat) : upto f (k + 1) = upto f k ++ [f k] := by simp [upto, List.range_succ]
theorem upto_length {α : Type} (f : Nat → α) (k : Nat) : (upto f k).length = k := by simp [upto]
theorem upto_all (zs : List Int) : upto (fun j => zs[j]?.getD 0) zs.length = zs := by
  apply List.ext_getElem
  · simp [upto]
  · intro i h1 h2
    simp [upto, h2]
set_option maxRecDepth 100000 in
set_option maxHeartbeats 2000000 in
theorem values1_in (n : Nat) (hn : 1 ≤ n) (l Bs n₀ len cap : Nat) (base : Option Addr) (zs : List Int) (hreach : len * 8 ≤ 140737488351232) (J Jx : List Int → World → Prop)
    (hY : ∀ pre x W, J pre W → pre.length < len → YieldAt W0 (n - 1) Try.prog l #[.int .i64 x] W fun e W' =>
      (e = .returned (.bool true) ∧ J (pre ++ [x]) W' ∧ Below n₀ W W') ∨ (e = .returned (.bool false) ∧ Jx (pre ++ [x]) W'))
    (W : World) (hBs : W.cell? ⟨Bs, 0, none⟩ = some (.slice base len cap)) (hc : ∀ k, k < len → ∃ b off, base = some ⟨b, off, none⟩ ∧ b < n₀ ∧ W.cell? ⟨b, off + k, none⟩ = some (.int .i64 (zs[k]?.getD 0))) (h0 : J [] W) :
    CallsIn W0 n Try.prog 74 #[.func (.yield l) #[] #[], .pointer (some ⟨Bs, 0, none⟩)] W fun e W' => (∃ v, e = .returned v) ∧
      ((∃ ys, ys = upto (fun j => zs[j]?.getD 0) len ∧ J ys W') ∨ (∃ pre, True ∧ Jx pre W')) := by
  refine callsIn_of_wp Try.func74 rfl (wide_fn _) ?_ wide_ro
  simp only [Try.ntmps74, List.size_toArray, List.length_cons, List.length_nil, Nat.reduceAdd, Nat.reduceSub, Array.replicate_succ, Array.replicate_zero, List.push_toArray, List.append_toArray, List.nil_append, List.cons_append]
  gi_wp2
  gi_loopw [7] (fun i wr => ∃ k : Nat, k ≤ len ∧ i = .int .i64 k ∧ J (upto (fun j => zs[j]?.getD 0) k) wr ∧ Below n₀ W wr)
    (fun i _ => len - (intOf i).toNat)
  case atStart => exact ⟨0, Nat.zero_le _, rfl, h0, Below.refl _ _⟩
  case round =>
    obtain ⟨k, hk, rfl, hJs, hnx⟩ := hrel
    by_cases hlt : k < len
    · obtain ⟨b, off, rfl, hb, hcx0⟩ := hc k hlt
      have hcx' : wr.cell? ⟨b, off + k, none⟩ = some (.int .i64 (zs[k]?.getD 0)) := (hnx.cell (p := ⟨b, off + k, none⟩) hb).trans hcx0
      obtain ⟨fn, tmps, assign, body, hy, hR⟩ := hY _ (zs[k]?.getD 0) wr hJs (by rw [upto_length]; exact hlt)
      gi_wp2
      refine hR.mono ?_
      rintro e W3 (⟨rfl, hJ3, hk3⟩ | ⟨rfl, hJx3⟩)
      · gi_wp2
        go_roundw
        case rel => exact ⟨k + 1, by omega, by simp, by rw [upto_succ]; exact hJ3, hnx.trans hk3⟩
        case measure => simp [intOf]; omega
      · gi_wp2
        refine bodyPost_ret (results_none rfl _ _ _) rfl ?_
        exact ⟨⟨_, rfl⟩, .inr ⟨_, trivial, hJx3⟩⟩
    · obtain rfl : k = len := by omega
      gi_wp2
      go_end0
      exact ⟨⟨_, rfl⟩, .inl ⟨_, rfl, hJs⟩⟩
set_option maxHeartbeats 1000000 in
theorem values_in (n : Nat) (a : Option Addr) (len cap : Nat) (w : World) :
    CallsIn W0 n Try.prog 52 #[.slice a len cap] w fun e w' => e = .returned (.func (.func 74) #[] #[.pointer (some ⟨w.heap.size, 0, none⟩)]) ∧ w' = w.alloc (.cells #[.slice a len cap] 25) := by
  refine callsIn_of_wp Try.func52 rfl (wide_fn _) ?_ wide_ro
  simp only [Try.ntmps52, List.size_toArray, List.length_cons, List.length_nil, Nat.reduceAdd, Nat.reduceSub, Array.replicate_succ, Array.replicate_zero, List.push_toArray, List.append_toArray, List.nil_append, List.cons_append]
  gi_wp2
  go_ret
  exact ⟨rfl, rfl⟩
/-- what a slice of numbers reads as: below n₀ -/
def Ints (n₀ : Nat) (W : World) (base : Option Addr) (zs : List Int) : Prop := ∀ k, k < zs.length → ∃ b off, base = some ⟨b, off, none⟩ ∧ b < n₀ ∧ W.cell? ⟨b, off + k, none⟩ = some (.int .i64 (zs[k]?.getD 0))
theorem Ints.below {n₀ : Nat} {A B : World} (h : Below n₀ A B) {base : Option Addr} {zs : List Int} (hI : Ints n₀ A base zs) : Ints n₀ B base zs := fun k hk => by
  obtain ⟨b, off, e, hb, hc⟩ := hI k hk
  exact ⟨b, off, e, hb, (h.cell (p := ⟨b, off + k, none⟩) hb).trans hc⟩
theorem Ints.mono {n₀ n₁ : Nat} (hn : n₀ ≤ n₁) {A : World} {base : Option Addr} {zs : List Int} (hI : Ints n₀ A base zs) : Ints n₁ A base zs := fun k hk => by
  obtain ⟨b, off, e, hb, hc⟩ := hI k hk
  exact ⟨b, off, e, Nat.lt_of_lt_of_le hb hn, hc⟩
theorem values_stops (n : Nat) (hn : 1 ≤ n) (Bs n₀ : Nat) (base : Option Addr) (cap : Nat) (zs : List Int) (hreach : zs.length * 8 ≤ 140737488351232) (w : World) (hBs : Bs < w.heap.size) (hn₀ : n₀ ≤ w.heap.size)
    (hc : w.cell? ⟨Bs, 0, none⟩ = some (.slice base zs.length cap)) (hI : Ints n₀ w base zs) :
    SeqStopsK W0 n Try.prog 74 #[.pointer (some ⟨Bs, 0, none⟩)] (fun x : Int => #[Value.int .i64 x]) (Below n₀) (fun ys => ys = zs) (fun _ => True) zs.length w := fun l J Jx W hW _ _ hY h0 => by
  have hc' := (hW.cell (p := ⟨Bs, 0, none⟩) hBs).trans hc
  refine (values1_in n hn l Bs n₀ zs.length cap base zs hreach J Jx hY W hc' (hI.below (hW.mono hn₀)) h0).mono ?_
  rintro e W' ⟨he, ⟨ys, rfl, hj⟩ | ⟨pre, _, hj⟩⟩
  · exact ⟨he, .inl ⟨_, upto_all zs, hj⟩⟩
  · exact ⟨he, .inr ⟨_, trivial, hj⟩⟩
theorem info3 : (Try.prog.info? 3).map (fun i => (i.zero, i.size, i.bytes)) = some (some (.int .i64 0), 1, 8) := by kernel_rfl
theorem und25 : Try.prog.underlying 25 = some (.slice 3) := by kernel_rfl
set_option maxRecDepth 100000 in
set_option maxHeartbeats 2000000 in
theorem append_in (Bs : Nat) (base : Option Addr) (cap : Nat) (zs : List Int) (hreach : zs.length ≤ 1000000000) (w : World) (hBs : Bs < w.heap.size) (hc0 : w.cell? ⟨Bs, 0, none⟩ = some (.slice base zs.length cap)) (hI : Ints w.heap.size w base zs) :
    CallsIn W0 3 Try.prog 82 #[.slice none 0 0, .func (.func 74) #[] #[.pointer (some ⟨Bs, 0, none⟩)]] w fun e W' => ∃ v, e = .returned v ∧ W'.ownsRow w.heap.size 3 1 v zs.length (zs.map (Value.int .i64)) ∧ Below w.heap.size w W' := by
  have h1 : 1 ≤ 3 := by omega
  obtain ⟨i0, hi, hz0, hz1, hz2⟩ := info_parts info3
  have hmx : maxLen = 2 ^ 63 - 1 := rfl
  refine callsIn_of_wp_marks Try.func82 rfl (wide_fn _) ?_ wide_ro
  simp only [Try.ntmps82, List.size_toArray, List.length_cons, List.length_nil, Nat.reduceAdd, Nat.reduceSub, Array.replicate_succ, Array.replicate_zero, List.push_toArray, List.append_toArray, List.nil_append, List.cons_append]
  gi_wp2
  have bO := Boxed.new w 25 (.slice none 0 0)
  have hB0 : Below w.heap.size w (w.alloc (.cells #[.slice none 0 0] 25)) := (Below.refl _ w).alloc (Nat.le_refl _) _
  refine wpIn_rangeFunc_ownG (F := W0) (n := 3) (P := Try.prog) wide_ro h1 (gf := 74) (lb := #[.pointer (some ⟨Bs, 0, none⟩)]) rfl (wide_fn _) (enters_of Try.func74 (by kernel_rfl) rfl)
    (values_stops 2 (by omega) Bs w.heap.size base cap zs (by omega) _ (by simp; omega) (by simp) ((hB0.cell (p := ⟨Bs, 0, none⟩) hBs).trans hc0) (hI.below hB0))
    belowK_t (belowK_b (by simp)) (Below.refl _ _) (fun _ => rfl)
    (fun pre W => (∃ v, Boxed W w.heap.size 25 v ∧ W.ownsRow w.heap.size 3 1 v pre.length (pre.map (Value.int .i64)) ∧ True) ∧ Below w.heap.size w W)
    (fun _ _ _ => False)
    (OwnFrom.and (Own.from (holdsRow_own w.heap.size w.heap.size 25 3 1 (fun pre : List Int => pre.length) (fun pre => pre.map (Value.int .i64)) (fun _ _ => True)) _) (ownFrom_below (Nat.le_refl _) (by simp)))
    (fun _ _ _ _ _ hs _ _ => hs)
    ⟨⟨_, bO, World.ownsRow_nil _ _ _ _, trivial⟩, hB0⟩
    (fun x => { tmps := #[.slice none 0 0, .func (.func 74) #[] #[.pointer (some ⟨Bs, 0, none⟩)], .pointer (some ⟨w.heap.size, 0, none⟩), undef, .slice none 0 0, .int .i64 x, .func (.func 74) #[] #[.pointer (some ⟨Bs, 0, none⟩)], .int .i64 x, undef, undef, undef, undef, undef], defers := [] }) ?assign ?body ?done ?stop
  case assign =>
    intro y x W K hK
    gi_wp2
    exact hK
  case body =>
    rintro y pre x W ⟨⟨v, hv, hrow, _⟩, hB⟩ hlt
    have hc := hv.cell
    gi_wp2_with (gi_at_builtin; refine wpListIn_append_own _ rfl _ _ 25 rfl w.heap.size 3 i0 (.int .i64 0) 1 8 und25 hi hz0 hz1 hz2 rfl (by decide) _ _ _ rfl (hrow.alloc _) ⟨W.heap.size, 0, none⟩ 1 1 [.int .i64 x] rfl rfl (cell_one_new _ _ _) (by simp [Value.oneCell']) (by omega) (by omega) (by have := hB.size; simp; omega) ?_; intro v' w1 hown' hgrow _; obtain ⟨g', cap', rfl⟩ := ownsRow_succ hown'; obtain ⟨hv1, hv2, hr2, hk2, hb2⟩ := hv.appended (by decide) hrow hB.size (Nat.le_refl _) hown' hgrow; have hc1 := hv1.cell; have hf1 := hv1.frozen)
    refine ⟨hk2.from _, hb2, ⟨_, hv2, ?_, trivial⟩, hB.trans hb2⟩
    simpa using hr2
  case done =>
    rintro D ys W hD rfl ⟨⟨v, hv, hrow, _⟩, hB⟩ hK
    have hc := hv.cell
    have hone : (∃ a m c, v = .slice a m c) := by
      rcases hrow.2 with ⟨rfl, _⟩ | ⟨g, cap, cur, rfl, _⟩ <;> exact ⟨_, _, _, rfl⟩
    obtain ⟨a', m', c', rfl⟩ := hone
    gi_wp2
    refine ⟨by simp, .inl ⟨_, _, rfl, run_takeDeferred hK, ?_⟩⟩
    exact ⟨_, results_tmp rfl _ _ _, _, rfl, ownsRow_putObj hrow _ hK rfl, hB.trans (belowK_b (w := w) (Nat.le_refl _) W D _ _ (by simp at hD; omega) hK rfl rfl)⟩
  case stop =>
    rintro D c pre W _ _ h _
    exact h.elim
set_option maxHeartbeats 2000000 in
theorem collect_in (Bs : Nat) (base : Option Addr) (cap : Nat) (zs : List Int) (hreach : zs.length ≤ 1000000000) (w : World) (hBs : Bs < w.heap.size) (hc0 : w.cell? ⟨Bs, 0, none⟩ = some (.slice base zs.length cap)) (hI : Ints w.heap.size w base zs) :
    CallsIn W0 4 Try.prog 72 #[.func (.func 74) #[] #[.pointer (some ⟨Bs, 0, none⟩)]] w fun e W' => ∃ v, e = .returned v ∧ W'.ownsRow w.heap.size 3 1 v zs.length (zs.map (Value.int .i64)) ∧ Below w.heap.size w W' := by
  refine callsIn_of_wp Try.func72 rfl (wide_fn _) ?_ wide_ro
  simp only [Try.ntmps72, List.size_toArray, List.length_cons, List.length_nil, Nat.reduceAdd, Nat.reduceSub, Array.replicate_succ, Array.replicate_zero, List.push_toArray, List.append_toArray, List.nil_append, List.cons_append]
  gi_wp2_with (refine ⟨wide_fn _, ?_⟩; gi_at_call 82; refine (append_in Bs base cap zs hreach _ hBs hc0 hI).mono ?_; rintro e w' ⟨v, rfl, hr, hb⟩)
  go_ret
  exact ⟨v, rfl, hr, hb⟩
open Go.Sort in
theorem sort_at (n : Nat) (w : World) (base : Nat) (v : Value) (zs : List Int) (hown : w.ownsRow base 3 1 v zs.length (zs.map (Value.int .i64))) (hl : zs.length ≤ 1000000000) :
    CallsIn W0 n Try.prog 73 #[v] w fun e w' => e = .returned (.tuple #[]) ∧ w'.ownsRow base 3 1 v zs.length ((zs.mergeSort fun x y => decide (x ≤ y)).map (Value.int .i64)) ∧ w.grownBy w' v.ownBlock := by
  refine callsIn_wide.2 ?_
  rcases hown.2 with ⟨rfl, hn⟩ | ⟨g, cap, cur, rfl, hg, hh, hcap, hmax, hsz, htk⟩
  · obtain rfl : zs = [] := List.length_eq_zero_iff.1 hn
    refine (Try.slices_Sort_int_none none 0 w).mono ?_
    rintro e w' ⟨rfl, rfl⟩
    exact ⟨rfl, by simpa using hown, rfl, rfl, rfl, Nat.le_refl _, fun _ _ _ => rfl⟩
  · have hlt : g < w.heap.size := (Array.getElem?_eq_some_iff.1 hh).1
    have htk' : cur.toList.take zs.length = zs.map (Value.int .i64) := by rw [← htk, Nat.mul_one]
    refine Calls.mono (Try.slices_Sort_int g 0 cap zs w (holds_of_blockI hh htk') hlt (by omega)) ?_
    rintro e w' ⟨rfl, m, os, rfl⟩
    exact ⟨rfl, ownsRow_sortedI (by simp) hg hh hcap hmax hsz, grownBy_sortedI _⟩
open Go.Sort in
theorem compact_at (n : Nat) (w : World) (base : Nat) (v : Value) (zs : List Int) (hown : w.ownsRow base 3 1 v zs.length (zs.map (Value.int .i64))) (hl : zs.length ≤ 1000000000) :
    CallsIn W0 n Try.prog 53 #[v] w fun e w' => (∃ a c, e = .returned (.slice a (Lib.compact zs).length c)) ∧ w.grownBy w' v.ownBlock := by
  refine callsIn_wide.2 ?_
  rcases hown.2 with ⟨rfl, hn⟩ | ⟨g, cap, cur, rfl, hg, hh, hcap, hmax, hsz, htk⟩
  · obtain rfl : zs = [] := List.length_eq_zero_iff.1 hn
    refine (Try.slices_Compact_int_empty none 0 w).mono ?_
    rintro e w' ⟨rfl, rfl⟩
    exact ⟨⟨none, 0, rfl⟩, rfl, rfl, rfl, Nat.le_refl _, fun _ _ _ => rfl⟩
  · have htk' : cur.toList.take zs.length = zs.map (Value.int .i64) := by rw [← htk, Nat.mul_one]
    refine Calls.mono (Try.slices_Compact_int g 0 cap zs w (holds_of_blockI hh htk') (by omega) hcap) ?_
    rintro e w' ⟨rfl, m, rfl⟩
    have hg0 := grownBy_sortedI (w := w) (g := g) (n := m) (os := #[]) (Lib.compact zs ++ List.replicate (zs.length - (Lib.compact zs).length) 0).toArray
    rw [grow_empty] at hg0
    exact ⟨⟨_, _, rfl⟩, hg0⟩
set_option maxHeartbeats 2000000 in
theorem sorted_in (Bs : Nat) (base : Option Addr) (cap : Nat) (zs : List Int) (hreach : zs.length ≤ 1000000000) (w : World) (hBs : Bs < w.heap.size) (hc0 : w.cell? ⟨Bs, 0, none⟩ = some (.slice base zs.length cap)) (hI : Ints w.heap.size w base zs) :
    CallsIn W0 5 Try.prog 51 #[.func (.func 74) #[] #[.pointer (some ⟨Bs, 0, none⟩)]] w fun e W' => ∃ v, e = .returned v ∧ W'.ownsRow w.heap.size 3 1 v zs.length ((zs.mergeSort fun x y => decide (x ≤ y)).map (Value.int .i64)) ∧ Below w.heap.size w W' := by
  refine callsIn_of_wp Try.func51 rfl (wide_fn _) ?_ wide_ro
  simp only [Try.ntmps51, List.size_toArray, List.length_cons, List.length_nil, Nat.reduceAdd, Nat.reduceSub, Array.replicate_succ, Array.replicate_zero, List.push_toArray, List.append_toArray, List.nil_append, List.cons_append]
  gi_wp2_with (refine ⟨wide_fn _, ?_⟩; gi_at_call 72; refine (collect_in Bs base cap zs hreach _ hBs hc0 hI).mono ?_; rintro e w' ⟨v, rfl, hr, hb⟩)
  gi_wp2_with (refine ⟨wide_fn _, ?_⟩; gi_at_call 73; refine (sort_at _ _ _ v zs hr hreach).mono ?_; rintro e w2 ⟨rfl, hr2, hg2⟩)
  go_ret
  exact ⟨v, rfl, hr2, hb.grown hg2 hb.size fun g e => (hr.lt g e).1⟩
theorem sorted_pair (l : List Int) : (l.mergeSort fun x y => decide (x ≤ y)).Pairwise (fun a b => a ≤ b) := by
  have h := List.pairwise_mergeSort (le := fun x y : Int => decide (x ≤ y)) (fun a b c h1 h2 => by simp only [decide_eq_true_eq] at *; omega) (fun a b => by simp only [Bool.or_eq_true, decide_eq_true_eq]; omega) l
  exact h.imp (fun h => of_decide_eq_true h)
theorem keeps_iff (s : List Int) (j : Nat) (hj : j < s.length) : Lib.keeps s.toArray j = true ↔ (j = 0 ∨ s[j] ≠ s[j - 1]'(by omega)) := by
  have h1 : s.toArray[j]! = s[j] := by rw [getElem!_pos _ j (by simpa using hj)]; simp
  have h2 : s.toArray[j - 1]! = s[j - 1]'(by omega) := by rw [getElem!_pos _ (j - 1) (by simp; omega)]; simp
  simp only [Lib.keeps, h1, h2, Bool.or_eq_true, decide_eq_true_eq, bne_iff_ne]
theorem once_lem (l : List Int) : decide (((Lib.compact (l.mergeSort fun x y => decide (x ≤ y))).length : Int) = (l.length : Int)) = decide l.Nodup := by
  have hp := List.mergeSort_perm l (fun x y : Int => decide (x ≤ y))
  have hs := sorted_pair l
  have hlen : l.length = (l.mergeSort fun x y => decide (x ≤ y)).length := by simp
  rw [hlen]
  have hnd : l.Nodup ↔ (l.mergeSort fun x y => decide (x ≤ y)).Nodup := hp.nodup_iff.symm
  rw [decide_eq_decide, hnd]
  generalize (l.mergeSort fun x y => decide (x ≤ y)) = s at hs
  constructor
  · intro h
    have h : (Lib.compact s).length = s.length := by omega
    have hk : ∀ j, j < s.length → Lib.keeps s.toArray j = true := by
      unfold Lib.compact Lib.compactUpTo at h
      rw [List.length_map] at h
      have h2 := List.length_filter_eq_length_iff.1 (h.trans (List.length_range (n := s.length)).symm)
      exact fun j hj => h2 j (List.mem_range.2 hj)
    rw [List.Nodup, List.pairwise_iff_getElem]
    intro i j hi hj hij
    have h1 := (keeps_iff s j hj).1 (hk j hj)
    have h2 : s[j] ≠ s[j - 1] := by
      rcases h1 with h1 | h1
      · omega
      · exact h1
    rw [List.pairwise_iff_getElem] at hs
    have h3 := hs (j - 1) j (by omega) hj (by omega)
    by_cases he : i = j - 1
    · subst he; exact fun e => h2 e.symm
    · have h4 := hs i (j - 1) hi (by omega) (by omega)
      omega
  · intro h
    rw [Lib.compact_all s]
    intro j hj
    rw [keeps_iff s j hj]
    by_cases h0 : j = 0
    · exact Or.inl h0
    · right
      rw [List.Nodup, List.pairwise_iff_getElem] at h
      exact fun e => h (j - 1) j (by omega) hj (by omega) e.symm
set_option maxHeartbeats 2000000 in
theorem once_in (base : Option Addr) (cap : Nat) (zs : List Int) (hreach : zs.length ≤ 1000000000) (w : World) (hI : Ints w.heap.size w base zs) :
    CallsIn W0 6 Try.prog 31 #[.slice base zs.length cap] w fun e W' => e = .returned (.bool (decide (((Lib.compact (zs.mergeSort fun x y => decide (x ≤ y))).length : Int) = (zs.length : Int)))) ∧ Below w.heap.size w W' := by
  refine callsIn_of_wp Try.func31 rfl (wide_fn _) ?_ wide_ro
  simp only [Try.ntmps31, List.size_toArray, List.length_cons, List.length_nil, Nat.reduceAdd, Nat.reduceSub, Array.replicate_succ, Array.replicate_zero, List.push_toArray, List.append_toArray, List.nil_append, List.cons_append]
  have hB1 : Below w.heap.size w (w.alloc (.cells #[.slice base zs.length cap] 25)) := (Below.refl _ w).alloc (Nat.le_refl _) _
  gi_wp2_with (refine ⟨wide_fn _, ?_⟩; gi_at_call 52; refine (values_in _ _ _ _ _).mono ?_; rintro e w' ⟨rfl, rfl⟩)
  gi_wp2_with (refine ⟨wide_fn _, ?_⟩; gi_at_call 51; refine (sorted_in w.heap.size base cap zs hreach _ (by simp) (Boxed.new w 25 _).cell ((hI.below hB1).mono (by simp))).mono ?_; rintro e w' ⟨v, rfl, hr, hb⟩)
  have hr0 : w'.ownsRow (w.alloc (.cells #[.slice base zs.length cap] 25)).heap.size 3 1 v (zs.mergeSort fun x y => decide (x ≤ y)).length ((zs.mergeSort fun x y => decide (x ≤ y)).map (Value.int .i64)) := by rw [List.length_mergeSort]; exact hr
  gi_wp2_with (refine ⟨wide_fn _, ?_⟩; gi_at_call 53; refine (compact_at _ _ _ v _ hr0 (by simpa using hreach)).mono ?_; rintro e w2 ⟨⟨a, c, rfl⟩, hg2⟩)
  go_ret
  refine ⟨rfl, ?_⟩
  exact (hB1.trans (hb.mono (by simp))).grown hg2 (by have := hb.size; simp at this; omega) fun g e => by have := (hr.lt g e).1; simp at this; omega
theorem val31 : Valid Try.prog GW 31 cOnce := by
  refine ⟨⟨Try.f31, Try.func31, by kernel_rfl, rfl⟩, fun w _ S x cs hS hx hpre => ?_⟩
  obtain ⟨l, ⟨⟩⟩ := x
  obtain ⟨c1, c2, rfl, h1, h2⟩ := hx
  obtain rfl : c2 = [] := h2
  have h1' := h1
  obtain ⟨base, cap, rfl, _, _, hne⟩ := h1
  have hl : List.length (α := Int) l ≤ 3000000 := of_decide_eq_true hpre
  have hI : Ints w.heap.size w base l := fun k hk => by
    obtain ⟨b, off, rfl, hb, hel⟩ := hne (fun e => absurd hk (by rw [show l = ([] : List Int) from e]; exact Nat.not_lt_zero _))
    have hx : (l : List Int)[k]? = some ((l : List Int)[k]'hk) := List.getElem?_eq_getElem hk
    obtain ⟨es, ⟨rfl, _⟩, hlies⟩ := hel k _ hx
    have := hlies 0 _ rfl
    refine ⟨b, off, rfl, hS b hb, ?_⟩
    rw [hx]
    have e : off + k * Ty.size I64 + 0 = off + k := by show off + k * 1 + 0 = off + k; omega
    rw [e] at this
    exact this
  refine Calls.mono (callsIn_wide.1 (once_in base cap l (by omega) w hI)) ?_
  rintro e w' ⟨rfl, hb⟩
  refine ⟨hb, [.bool _], rfl, ⟨[.bool _], [], rfl, ?_, rfl⟩, fun h => by cases h⟩
  show [_] = [Value.bool (decide (List.Nodup (α := Int) l))]
  rw [once_lem]
end Go.Proofs.Ytdkcgcgefgeooaa.Bk
namespace Go.Proofs.Ytdkcgcgefgeooaa.Bk
open Go Go.Eng 
set_option maxRecDepth 100000
theorem val39 : Valid Try.prog GW 39 cOn := mkValid gws Tb.mix Tb.tab_ok Tb.eqs_ok g39 rfl allV_nil (allI_cons Try.func67 (by kernel_rfl) allI_nil) Try.func39 (by kernel_rfl) v39
theorem val46 : Valid Try.prog GW 46 cIdx := Valid.T (mkValid gws Tb.mix Tb.tab_ok Tb.eqs_ok g46 rfl allV_nil allI_nil Try.func46 (by kernel_rfl) v46)
theorem val43 : Valid Try.prog GW 43 cIdx := Valid.T (mkValid gws Tb.mix Tb.tab_ok Tb.eqs_ok g43 rfl allV_nil allI_nil Try.func43 (by kernel_rfl) v43)
theorem val48 : Valid Try.prog GW 48 ((cClone 3 8 I64)) := mkValid gws Tb.mix Tb.tab_ok Tb.eqs_ok g48 rfl allV_nil allI_nil Try.func48 (by kernel_rfl) v48
theorem val71 : Valid Try.prog GW 71 cPart := Valid.T (mkValid gws Tb.mix Tb.tab_ok Tb.eqs_ok g71 rfl (allV_cons val39 allV_nil) (allI_cons Try.func69 (by kernel_rfl) allI_nil) Try.func71 (by kernel_rfl) v71)
theorem val70 : Valid Try.prog GW 70 cStarts := mkValid gws Tb.mix Tb.tab_ok Tb.eqs_ok g70 rfl (allV_cons val39 allV_nil) (allI_cons Try.func69 (by kernel_rfl) allI_nil) Try.func70 (by kernel_rfl) v70
theorem val62 : Valid Try.prog GW 62 cJoin := mkValid gws Tb.mix Tb.tab_ok Tb.eqs_ok g62 rfl allV_nil (allI_cons Try.func69 (by kernel_rfl) allI_nil) Try.func62 (by kernel_rfl) v62
theorem val65 : Valid Try.prog GW 65 cEnd := mkValid gws Tb.mix Tb.tab_ok Tb.eqs_ok g65 rfl allV_nil (allI_cons Try.func40 (by kernel_rfl) (allI_cons Try.func69 (by kernel_rfl) allI_nil)) Try.func65 (by kernel_rfl) v65
theorem val44 : Valid Try.prog GW 44 cBegin := mkValid gws Tb.mix Tb.tab_ok Tb.eqs_ok g44 rfl (allV_cons val39 allV_nil) (allI_cons Try.func69 (by kernel_rfl) allI_nil) Try.func44 (by kernel_rfl) v44
theorem val30 : Valid Try.prog GW 30 cFlCk := mkValid gws Tb.mix Tb.tab_ok Tb.eqs_ok g30 rfl (allV_cons val39 allV_nil) (allI_cons Try.func69 (by kernel_rfl) allI_nil) Try.func30 (by kernel_rfl) v30
theorem val24 : Valid Try.prog GW 24 cFlCk := mkValid gws Tb.mix Tb.tab_ok Tb.eqs_ok g24 rfl allV_nil allI_nil Try.func24 (by kernel_rfl) v24
theorem val13 : Valid Try.prog GW 13 cOwns := mkValid gws Tb.mix Tb.tab_ok Tb.eqs_ok g13 rfl allV_nil allI_nil Try.func13 (by kernel_rfl) v13
theorem val23 : Valid Try.prog GW 23 cOwns := mkValid gws Tb.mix Tb.tab_ok Tb.eqs_ok g23 rfl allV_nil allI_nil Try.func23 (by kernel_rfl) v23
theorem val25 : Valid Try.prog GW 25 cTwice3 := mkValid gws Tb.mix Tb.tab_ok Tb.eqs_ok g25 rfl (allV_cons val43 allV_nil) allI_nil Try.func25 (by kernel_rfl) v25
theorem val10 : Valid Try.prog GW 10 cCk := mkValid gws Tb.mix Tb.tab_ok Tb.eqs_ok g10 rfl (allV_cons val13 (allV_cons val30 (allV_cons val31 allV_nil))) allI_nil Try.func10 (by kernel_rfl) v10
theorem val7 : Valid Try.prog GW 7 cCk := mkValid gws Tb.mix Tb.tab_ok Tb.eqs_ok g7 rfl (allV_cons val23 (allV_cons val24 (allV_cons val25 allV_nil))) allI_nil Try.func7 (by kernel_rfl) v7
theorem val6 : Valid Try.prog GW 6 cGreat := mkValid gws Tb.mix Tb.tab_ok Tb.eqs_ok g6 rfl allV_nil allI_nil Try.func6 (by kernel_rfl) v6
theorem val33 : Valid Try.prog GW 33 ((cSam I64)) := Valid.T (mkValid gws Tb.mix Tb.tab_ok Tb.eqs_ok g33 rfl allV_nil allI_nil Try.func33 (by kernel_rfl) v33)
theorem val54 : Valid Try.prog GW 54 ((cSam RestT)) := Valid.T (mkValid gws Tb.mix Tb.tab_ok Tb.eqs_ok g54 rfl allV_nil allI_nil Try.func54 (by kernel_rfl) v54)
theorem val55 : Valid Try.prog GW 55 ((cSam ScT)) := Valid.T (mkValid gws Tb.mix Tb.tab_ok Tb.eqs_ok g55 rfl allV_nil allI_nil Try.func55 (by kernel_rfl) v55)
theorem val32 : Valid Try.prog GW 32 ((cSam RestT)) := mkValid gws Tb.mix Tb.tab_ok Tb.eqs_ok g32 rfl (allV_cons val54 allV_nil) allI_nil Try.func32 (by kernel_rfl) v32
theorem val34 : Valid Try.prog GW 34 ((cSam ScT)) := mkValid gws Tb.mix Tb.tab_ok Tb.eqs_ok g34 rfl (allV_cons val55 allV_nil) allI_nil Try.func34 (by kernel_rfl) v34
theorem val11 : Valid Try.prog GW 11 cSameB := mkValid gws Tb.mix Tb.tab_ok Tb.eqs_ok g11 rfl (allV_cons val32 (allV_cons val33 (allV_cons val34 allV_nil))) allI_nil Try.func11 (by kernel_rfl) v11
theorem val12 : Valid Try.prog GW 12 ((cSam I64)) := Valid.T (mkValid gws Tb.mix Tb.tab_ok Tb.eqs_ok g12 rfl allV_nil allI_nil Try.func12 (by kernel_rfl) v12)
theorem val9 : Valid Try.prog GW 9 cQuit := mkValidM gws Tb.mix Tb.tab_ok Tb.eqs_ok (by kernel_rfl) g9 rfl (allM_cons mval47 allM_nil) (allV_cons val46 (allV_cons val48 (allV_cons val70 (allV_cons val71 allV_nil)))) (allI_cons Try.func27 (by kernel_rfl) (allI_cons Try.func28 (by kernel_rfl) (allI_cons Try.func29 (by kernel_rfl) (allI_cons Try.func45 (by kernel_rfl) (allI_cons Try.func49 (by kernel_rfl) (allI_cons Try.func50 (by kernel_rfl) (allI_cons Try.func58 (by kernel_rfl) allI_nil))))))) Try.func9 (by kernel_rfl) v9
end Go.Proofs.Ytdkcgcgefgeooaa.Bk
set_option maxRecDepth 100000
namespace Go.Proofs.Ytdkcgcgefgeooaa.Bk
open Go Go.Eng
/-! ticks -/
def clT (t : Int) : Int := min (max t 0) 1073741824
def oldT (since age now : Int) : Bool := decide (clT (clT since + clT age) ≤ clT now)
def spent (long now : Int) (dead : List Int) (r : Rs) : Bool := dead.any (fun y => decide (y = r.1)) || oldT r.2.1 long now
/-! the last one that is good -/
def topQ (long now : Int) (dead : List Int) (l : List Rs) : List Rs := (l.reverse.dropWhile (spent long now dead)).reverse
def topO (long now : Int) (dead : List Int) (l : List Rs) : List Int := (l.reverse.takeWhile (spent long now dead)).map skOf
def topK (long now : Int) (dead : List Int) (l : List Rs) : Bool := decide (topQ long now dead l ≠ [])
def topS (long now : Int) (dead : List Int) (l : List Rs) : Int := match (topQ long now dead l).getLast? with
  | some r => r.1
  | none => -1
def topR (long now : Int) (dead : List Int) (l : List Rs) : List Rs := (topQ long now dead l).dropLast
abbrev aTop : Ty := .cons (.sl RestT) (.cons I64 (.cons I64 (.cons IL .unit)))
def topOk (l : List Rs) : Bool := decide (l.length ≤ 1000000)
def cTop : Contract := conD aTop (.cons I64 (.cons (.sl RestT) (.cons IL (.cons .bool .unit)))) (fun x => topOk x.1) fun x =>
  (topS x.2.1 x.2.2.1 x.2.2.2.1 x.1, (topR x.2.1 x.2.2.1 x.2.2.2.1 x.1, (topO x.2.1 x.2.2.1 x.2.2.2.1 x.1, (topK x.2.1 x.2.2.1 x.2.2.2.1 x.1, ()))))
def cSpent : Contract := conD (.cons RestT (.cons (.ptr IL) (.cons (.ptr I64) (.cons (.ptr I64) .unit)))) (.cons .bool .unit) (fun x => (Option.isSome x.2.1 && Option.isSome x.2.2.1) && Option.isSome x.2.2.2.1) fun x => (spent (Option.getD (α := Int) x.2.2.1 0) (Option.getD (α := Int) x.2.2.2.1 0) (Option.getD (α := List Int) x.2.1 []) x.1, ())
/-! sifting -/
def sftG (long now : Int) (dead : List Int) (l : List Rs) : List Rs := l.filter fun r => !spent long now dead r
def sftO (long now : Int) (dead : List Int) (l : List Rs) : List Int := (l.filter (spent long now dead)).map skOf
def cSift : Contract := conD aTop (.cons (.sl RestT) (.cons IL .unit)) (fun x => topOk x.1) fun x => (sftG x.2.1 x.2.2.1 x.2.2.2.1 x.1, (sftO x.2.1 x.2.2.1 x.2.2.2.1 x.1, ()))
structure SfI (long now : Int) (dead : List Int) (l : List Rs) (i : Int) (g : List Rs) (o : List Int) : Prop where
  i0 : 0 ≤ i
  i1 : i ≤ l.length
  a : g = sftG long now dead (l.take i.toNat)
  b : o = sftO long now dead (l.take i.toNat)
def sfA : LoopAnn where
  α := Int × List Rs × List Int
  keep := [1, 2, 3, 10, 17, 18]
  okeep := [0, 1, 2]
  nxt := 2500
  env := fun _ x => [(19, .dat I64 x.1), (8, .own 2000), (9, .own 2001)]
  own := fun _ x => [(2000, .row 68 RestT x.2.1), (2001, .row 3 I64 x.2.2)]
  inv := fun s x => SfI (bDat I64 s 1).out (bDat I64 s 2).out (bDat IL s 3).out (bDat (.sl RestT) s 17).out x.1 x.2.1 x.2.2
  mu := fun s x => List.length (α := Rs) (bDat (.sl RestT) s 17).out - x.1.toNat
  pick := some fun _ s => ((bDat I64 s 19).out, (bRow RestT s 8).out, (bRow I64 s 9).out)
/-! scars -/
def noteS (l : List Sc) : List Sc := l.drop (l.length - 32)
def cNote : Contract := conD (.cons (.sl ScT) (.cons I64 (.cons (.sl AdT) .unit))) (.cons (.sl ScT) .unit) (fun x => decide (List.length (α := Sc) x.1 ≤ 1000000) && decide (List.length (α := Ad) x.2.2.1 = 0)) fun x => (noteS x.1, ())
/-! decisions -/
def hasN (l : List Int) (x : Int) : Bool := l.any fun y => decide (y = x)
def cHas : Contract := conD (.cons IL (.cons I64 .unit)) (.cons .bool .unit) (fun _ => true) fun x => (hasN x.1 x.2.1, ())
/-- what a decision comes to: a book, replies, sockets to shut, whether a race is cut -/
abbrev Dc := Bk × List Rp × List Int × Bool
def outB (d : Dc) : Bk := d.1
def outT (d : Dc) : Tn := (d.2.1, d.2.2.1, endsB d.1, d.2.2.2, ())
def fileD (b : Bk) (re : List Rp) (sh : List Int) (sock now : Int) : Dc := match b.2.2.2.1 with
  | c :: wa => (mkB b.1 b.2.1 (b.2.2.1 ++ [sock]) wa (partF b.2.2.2.2.1 1) b.2.2.2.2.2.1 b.2.2.2.2.2.2.1, re ++ [(c, sock, 0, ())], sh, partC b.2.2.2.2.1 1)
  | [] => bif decide ((b.2.1.length : Int) < b.1.2.1) then (mkB b.1 (b.2.1 ++ [(sock, now, ())]) b.2.2.1 b.2.2.2.1 b.2.2.2.2.1 b.2.2.2.2.2.1 b.2.2.2.2.2.2.1, re, sh, false) else (b, re, sh ++ [sock], false)
def askD (b : Bk) (c now : Int) (dead : List Int) : Dc :=
  bif b.2.2.2.2.2.2.1 then (b, [(c, -1, 240, ())], [], false) else
    bif topK b.1.2.2.2.2.2.1 now dead b.2.1 then (mkB b.1 (topR b.1.2.2.2.2.2.1 now dead b.2.1) (b.2.2.1 ++ [topS b.1.2.2.2.2.2.1 now dead b.2.1]) b.2.2.2.1 b.2.2.2.2.1 b.2.2.2.2.2.1 b.2.2.2.2.2.2.1, [(c, topS b.1.2.2.2.2.2.1 now dead b.2.1, 0, ())], topO b.1.2.2.2.2.2.1 now dead b.2.1, false) else
      bif decide (b.1.2.2.1 ≤ (b.2.2.2.1.length : Int)) then (mkB b.1 (topR b.1.2.2.2.2.2.1 now dead b.2.1) b.2.2.1 b.2.2.2.1 b.2.2.2.2.1 b.2.2.2.2.2.1 b.2.2.2.2.2.2.1, [(c, -1, 230, ())], topO b.1.2.2.2.2.2.1 now dead b.2.1, false) else
        (mkB b.1 (topR b.1.2.2.2.2.2.1 now dead b.2.1) b.2.2.1 (b.2.2.2.1 ++ [c]) (joinF b.2.2.2.2.1) b.2.2.2.2.2.1 b.2.2.2.2.2.2.1, [], topO b.1.2.2.2.2.2.1 now dead b.2.1, false)
def askOk (b : Bk) (dead : List Int) : Bool := szB b && szI dead
def cAsk : Contract := conD (.cons BookT (.cons I64 (.cons I64 (.cons IL .unit)))) (.cons BookT (.cons TurnT .unit)) (fun x => askOk x.1 x.2.2.2.1) fun x => (outB (askD x.1 x.2.1 x.2.2.1 x.2.2.2.1), (outT (askD x.1 x.2.1 x.2.2.1 x.2.2.2.1), ()))
def backD (b : Bk) (c sock : Int) (keep : Bool) (now : Int) (dead : List Int) : Dc :=
  bif b.2.2.2.2.2.2.1 then (b, [(c, -1, 240, ())], [], false) else
    bif decide (idxN sock b.2.2.1 < 0) then (b, [(c, -1, 80, ())], [], false) else
      bif keep && !hasN dead sock then fileD (mkB b.1 b.2.1 (delL b.2.2.1 (idxN sock b.2.2.1) (idxN sock b.2.2.1 + 1)) b.2.2.2.1 b.2.2.2.2.1 b.2.2.2.2.2.1 b.2.2.2.2.2.2.1) [(c, -1, 0, ())] [] sock now else
        (mkB b.1 b.2.1 (delL b.2.2.1 (idxN sock b.2.2.1) (idxN sock b.2.2.1 + 1)) b.2.2.2.1 b.2.2.2.2.1 b.2.2.2.2.2.1 b.2.2.2.2.2.2.1, [(c, -1, 0, ())], [sock], false)
def cBack : Contract := conD (.cons BookT (.cons I64 (.cons I64 (.cons .bool (.cons I64 (.cons IL .unit)))))) (.cons BookT (.cons TurnT .unit)) (fun x => szB x.1 && szI x.2.2.2.2.2.1) fun x =>
  (outB (backD x.1 x.2.1 x.2.2.1 x.2.2.2.1 x.2.2.2.2.1 x.2.2.2.2.2.1), (outT (backD x.1 x.2.1 x.2.2.1 x.2.2.2.1 x.2.2.2.2.1 x.2.2.2.2.2.1), ()))
def failL (l : List Int) (e : Int) : List Rp := l.map fun c => (c, -1, e, ())
def allD (b : Bk) (e : Int) : Dc := (mkB b.1 b.2.1 b.2.2.1 [] (partF b.2.2.2.2.1 (b.2.2.2.1.length : Int)) b.2.2.2.2.2.1 b.2.2.2.2.2.2.1, failL b.2.2.2.1 e, [], partC b.2.2.2.2.1 (b.2.2.2.1.length : Int))
def endB (b : Bk) : Bk := mkB b.1 b.2.1 b.2.2.1 b.2.2.2.1 (endF b.2.2.2.2.1) (noteS b.2.2.2.2.2.1) b.2.2.2.2.2.2.1
def toldD (b : Bk) (sock e now : Int) (dead : List Int) : Dc :=
  bif decide (e = 0) && (b.2.2.2.2.2.2.1 || hasN dead sock) then (endB b, [], [sock], false) else
    bif decide (e = 0) then fileD (endB b) [] [] sock now else
      bif decide (e ≠ 191) then allD (endB b) e else (endB b, [], [], false)
def cTold : Contract := conD (.cons BookT (.cons I64 (.cons I64 (.cons (.sl AdT) (.cons I64 (.cons IL .unit)))))) (.cons BookT (.cons TurnT .unit)) (fun x => (szB x.1 && szI x.2.2.2.2.2.1) && decide (List.length (α := Ad) x.2.2.2.1 = 0)) fun x =>
  (outB (toldD x.1 x.2.1 x.2.2.1 x.2.2.2.2.1 x.2.2.2.2.2.1), (outT (toldD x.1 x.2.1 x.2.2.1 x.2.2.2.2.1 x.2.2.2.2.2.1), ()))
def closeD (b : Bk) (c : Int) : Dc :=
  bif b.2.2.2.2.2.2.1 then (b, [(c, -1, 240, ())], [], false) else
    (mkB b.1 [] [] [] (partF b.2.2.2.2.1 (b.2.2.2.1.length : Int)) b.2.2.2.2.2.1 true, failL b.2.2.2.1 240 ++ [(c, -1, 0, ())], ownsL b, partC b.2.2.2.2.1 (b.2.2.2.1.length : Int))
def cClose : Contract := conD (.cons BookT (.cons I64 .unit)) (.cons BookT (.cons TurnT .unit)) (fun x => szB x.1) fun x => (outB (closeD x.1 x.2.1), (outT (closeD x.1 x.2.1), ()))
def cNone : Contract := conD .unit (.cons FlT .unit) (fun _ => true) fun _ => (noneF, ())
def cNew : Contract := conD (.cons ConfT .unit) (.cons BookT .unit) (fun _ => true) fun x => (mkB x.1 [] [] [] noneF [] false, ())
def cOver : Contract := conD (.cons BookT .unit) (.cons .bool .unit) (fun _ => true) fun x => (x.1.2.2.2.2.2.2.1 && !onF x.1.2.2.2.2.1, ())
def startB (b : Bk) (r : Int) : Bk := bif decide (beginE b.2.2.2.2.1 r = 0) then mkB b.1 b.2.1 b.2.2.1 b.2.2.2.1 (beginF b.2.2.2.2.1 r) b.2.2.2.2.2.1 b.2.2.2.2.2.2.1 else b
def cStarted : Contract := conD (.cons BookT (.cons I64 .unit)) (.cons BookT (.cons I64 .unit)) (fun _ => true) fun x => (startB x.1 x.2.1, (beginE x.1.2.2.2.2.1 x.2.1, ()))
def oldD (b : Bk) (now : Int) (dead : List Int) : Dc := (mkB b.1 (sftG b.1.2.2.2.2.2.1 now dead b.2.1) b.2.2.1 b.2.2.2.1 b.2.2.2.2.1 b.2.2.2.2.2.1 b.2.2.2.2.2.2.1, [], sftO b.1.2.2.2.2.2.1 now dead b.2.1, false)
def cOld : Contract := conD (.cons BookT (.cons I64 (.cons IL .unit))) (.cons BookT (.cons TurnT .unit)) (fun x => askOk x.1 x.2.2.1) fun x => (outB (oldD x.1 x.2.1 x.2.2.1), (outT (oldD x.1 x.2.1 x.2.2.1), ()))
/-- the loop that tells all who wait -/
structure AlI (l : List Int) (e : Int) (i : Int) (o : List Rp) : Prop where
  i0 : 0 ≤ i
  i1 : i ≤ l.length
  a : o = failL (l.take i.toNat) e
def ledO (s : St) : Nat := match Go.Eng.look s.env 0 with
  | .pt o _ => o
  | _ => 0
def ledC (s : St) : List D := match lookO s.own (ledO s) with
  | .cells _ ds => ds
  | _ => []
def alA : LoopAnn where
  α := Int × List Rp
  keep := [0, 1, 11, 12]
  okeep := []
  nxt := 9100
  env := fun _ x => [(13, .dat I64 x.1)]
  own := fun s x => [(ledO s, .cells 86 ((ledC s).set 17 (.own 9000))), (9000, .row 41 RepT x.2)]
  inv := fun s x => AlI (bDat IL s 11).out (bDat I64 s 1).out x.1 x.2
  mu := fun s x => List.length (α := Int) (bDat IL s 11).out - x.1.toNat
  pick := some fun _ s => ((bDat I64 s 13).out, (cRow RepT s 0 17).out)
def ntA : LoopAnn where
  α := Int
  keep := [2, 12, 13]
  okeep := []
  nxt := 950
  env := fun _ x => [(14, .dat I64 x), (7, .own 900)]
  own := fun s _ => [(900, .row 100 ScT (bRow ScT s 7).out)]
  inv := fun _ x => x = 0
  mu := fun _ _ => 0
  pick := some fun _ s => (bDat I64 s 14).out
end Go.Proofs.Ytdkcgcgefgeooaa.Bk
namespace Go.Proofs.Ytdkcgcgefgeooaa.Bk
open Go Go.Eng 
set_option maxRecDepth 100000
noncomputable def g78 : Cfg := { tab := Tb.tab, cons := [(46, cIdx)], inls := [], loops := [], cuts := [], unroll := false, arrs := [], keys := [] }
noncomputable def g77 : Cfg := { tab := Tb.tab, cons := [], inls := [], loops := [], cuts := [], unroll := false, arrs := [], keys := [] }
noncomputable def g85 : Cfg := { tab := Tb.tab, cons := [(78, cHas)], inls := [(86, Try.f86), (102, Try.f102), (103, Try.f103)], loops := [], cuts := [], unroll := false, arrs := [], keys := [] }
noncomputable def g68 : Cfg := { tab := Tb.tab, cons := [(78, cHas)], inls := [(75, Try.f75), (85, Try.f85), (86, Try.f86), (102, Try.f102), (103, Try.f103)], loops := [(3, sfA)], cuts := [], unroll := false, arrs := [], keys := [] }
end Go.Proofs.Ytdkcgcgefgeooaa.Bk
namespace Go.Proofs.Ytdkcgcgefgeooaa.Bk
open Go Go.Eng 
set_option maxRecDepth 100000
theorem v78_eq : vcFn g78 300 Try.f78 cHas = ( ∀ (x : List Int × Int × Unit), Wr (Bool.true = Bool.true) → Wr (Bool.true = Bool.true) ∧ (Decidable.decide (idxN x.snd.fst x.fst ≥ (0 : Int)), ()) = (hasN x.fst x.snd.fst, ())) := by kernel_rfl
theorem v77_eq : vcFn g77 300 Try.f77 ((cClone 68 16 RestT)) = ( ∀ (x : List (Int × Int × Unit) × Unit), Wr (Decidable.decide (List.length x.fst * (16 : Nat) ≤ (140737488355328 : Nat)) = Bool.true) → ∀ (b : Bool), Wr (b = Bool.true → x.fst = nilL (Int × Int × Unit)) → bcase b (x.fst =
  nilL (Int × Int × Unit)) (Wr ((List.length (nilL (Int × Int × Unit)) + List.length x.fst) * (16 : Nat) ≤ (140737488355328 : Nat)) ∧ nilL (Int × Int × Unit) ++ x.fst = x.fst)) := by kernel_rfl
theorem v85_eq : vcFn g85 300 Try.f85 cSpent = ( ∀ (x : (Int × Int × Unit) × Option (List Int) × Option Int × Option Int × Unit), Wr ((Option.isSome x.snd.fst && Option.isSome x.snd.snd.fst && Option.isSome x.snd.snd.snd.fst) = Bool.true) → Wr (Option.isSome x.snd.fst
  = Bool.true) ∧ Wr (Bool.true = Bool.true) ∧ Wr ((!hasN (Option.getD x.snd.fst (Ty.zero IL)) x.fst.fst) = Bool.true → Option.isSome x.snd.snd.fst = Bool.true) ∧ Wr ((!hasN (Option.getD x.snd.fst (Ty.zero IL)) x.fst.fst)
  = Bool.true → Option.isSome x.snd.snd.snd.fst = Bool.true) ∧ bcase (!hasN (Option.getD x.snd.fst (Ty.zero IL)) x.fst.fst) ((Bool.false || Decidable.decide (Min.min (Max.max (Option.getD x.snd.snd.snd.fst (0 : Int)) (0 :
  Int)) (1073741824 : Int) ≥ Min.min (Max.max (IntKind.wrap IntKind.i64 (Min.min (Max.max x.fst.snd.fst (0 : Int)) (1073741824 : Int) + Min.min (Max.max (Option.getD x.snd.snd.fst (0 : Int)) (0 : Int)) (1073741824 :
  Int))) (0 : Int)) (1073741824 : Int)), ()) = (spent (Option.getD x.snd.snd.fst (0 : Int)) (Option.getD x.snd.snd.snd.fst (0 : Int)) (Option.getD x.snd.fst (nilL Int)) x.fst, ())) ((!Bool.false || Bool.false, ()) =
  (spent (Option.getD x.snd.snd.fst (0 : Int)) (Option.getD x.snd.snd.snd.fst (0 : Int)) (Option.getD x.snd.fst (nilL Int)) x.fst, ()))) := by kernel_rfl
theorem v68_eq : vcFn g68 300 Try.f68 cSift.T = ( ∀ (x : List (Int × Int × Unit) × Int × Int × List Int × Unit), Wr (typedB aTop x = Bool.true ∧ topOk x.fst = Bool.true) → (Wr (SfI x.snd.fst x.snd.snd.fst x.snd.snd.snd.fst x.fst (0 : Int) (nilL (Int × Int × Unit)) (nilL
  Int)) ∧ Wr ((0 : Int) = (0 : Int)) ∧ Wr (x.snd.fst = x.snd.fst) ∧ Wr (x.snd.snd.fst = x.snd.snd.fst) ∧ Wr (x.snd.snd.snd.fst = x.snd.snd.snd.fst) ∧ Wr (x.fst = x.fst) ∧ Wr ((↑(List.length x.fst) : Int) = (↑(List.length
  x.fst) : Int)) ∧ Wr (nilL (Int × Int × Unit) = nilL (Int × Int × Unit)) ∧ Wr (nilL Int = nilL Int) ∧ Wr (x.snd.fst = x.snd.fst) ∧ Wr (x.snd.snd.fst = x.snd.snd.fst) ∧ Wr (x.snd.snd.snd.fst = x.snd.snd.snd.fst)) ∧ ∀ (x_1
  : Int × List (Int × Int × Unit) × List Int), Wr (SfI x.snd.fst x.snd.snd.fst x.snd.snd.snd.fst x.fst x_1.fst x_1.snd.fst x_1.snd.snd) → bcase (Decidable.decide (x_1.fst < (↑(List.length x.fst) : Int))) (Wr ((0 : Int) ≤
  x_1.fst) ∧ Wr (x_1.fst < (↑(List.length x.fst) : Int)) ∧ Wr (Bool.true = Bool.true) ∧ Wr (Bool.true = Bool.true) ∧ bcase (!hasN x.snd.snd.snd.fst (List.getD x.fst (Int.toNat x_1.fst) (Ty.zero RestT)).fst) (bcase
  (Bool.false || Decidable.decide (Min.min (Max.max x.snd.snd.fst (0 : Int)) (1073741824 : Int) ≥ Min.min (Max.max (IntKind.wrap IntKind.i64 (Min.min (Max.max (List.getD x.fst (Int.toNat x_1.fst) (Ty.zero RestT)).snd.fst
  (0 : Int)) (1073741824 : Int) + Min.min (Max.max x.snd.fst (0 : Int)) (1073741824 : Int))) (0 : Int)) (1073741824 : Int))) (Wr ((List.length x_1.snd.snd + List.length ((List.getD x.fst (Int.toNat x_1.fst) (Ty.zero
  RestT)).fst :: nilL Int)) * (8 : Nat) ≤ (140737488355328 : Nat)) ∧ Wr (SfI x.snd.fst x.snd.snd.fst x.snd.snd.snd.fst x.fst (IntKind.wrap IntKind.i64 (x_1.fst + (1 : Int))) x_1.snd.fst (x_1.snd.snd ++ (List.getD x.fst
  (Int.toNat x_1.fst) (Ty.zero RestT)).fst :: nilL Int)) ∧ Wr (List.length x.fst - Int.toNat (IntKind.wrap IntKind.i64 (x_1.fst + (1 : Int))) < List.length x.fst - Int.toNat x_1.fst) ∧ Wr (IntKind.wrap IntKind.i64
  (x_1.fst + (1 : Int)) = IntKind.wrap IntKind.i64 (x_1.fst + (1 : Int))) ∧ Wr (x.snd.fst = x.snd.fst) ∧ Wr (x.snd.snd.fst = x.snd.snd.fst) ∧ Wr (x.snd.snd.snd.fst = x.snd.snd.snd.fst) ∧ Wr (x.fst = x.fst) ∧ Wr
  ((↑(List.length x.fst) : Int) = (↑(List.length x.fst) : Int)) ∧ Wr (x_1.snd.fst = x_1.snd.fst) ∧ Wr (x_1.snd.snd ++ (List.getD x.fst (Int.toNat x_1.fst) (Ty.zero RestT)).fst :: nilL Int = x_1.snd.snd ++ (List.getD x.fst
  (Int.toNat x_1.fst) (Ty.zero RestT)).fst :: nilL Int) ∧ Wr (x.snd.fst = x.snd.fst) ∧ Wr (x.snd.snd.fst = x.snd.snd.fst) ∧ Wr (x.snd.snd.snd.fst = x.snd.snd.snd.fst)) (Wr ((List.length x_1.snd.fst + List.length
  (List.getD x.fst (Int.toNat x_1.fst) (Ty.zero RestT) :: nilL (Int × Int × Unit))) * (16 : Nat) ≤ (140737488355328 : Nat)) ∧ Wr (SfI x.snd.fst x.snd.snd.fst x.snd.snd.snd.fst x.fst (IntKind.wrap IntKind.i64 (x_1.fst + (1
  : Int))) (x_1.snd.fst ++ List.getD x.fst (Int.toNat x_1.fst) (Ty.zero RestT) :: nilL (Int × Int × Unit)) x_1.snd.snd) ∧ Wr (List.length x.fst - Int.toNat (IntKind.wrap IntKind.i64 (x_1.fst + (1 : Int))) < List.length
  x.fst - Int.toNat x_1.fst) ∧ Wr (IntKind.wrap IntKind.i64 (x_1.fst + (1 : Int)) = IntKind.wrap IntKind.i64 (x_1.fst + (1 : Int))) ∧ Wr (x.snd.fst = x.snd.fst) ∧ Wr (x.snd.snd.fst = x.snd.snd.fst) ∧ Wr (x.snd.snd.snd.fst
  = x.snd.snd.snd.fst) ∧ Wr (x.fst = x.fst) ∧ Wr ((↑(List.length x.fst) : Int) = (↑(List.length x.fst) : Int)) ∧ Wr (x_1.snd.fst ++ List.getD x.fst (Int.toNat x_1.fst) (Ty.zero RestT) :: nilL (Int × Int × Unit) =
  x_1.snd.fst ++ List.getD x.fst (Int.toNat x_1.fst) (Ty.zero RestT) :: nilL (Int × Int × Unit)) ∧ Wr (x_1.snd.snd = x_1.snd.snd) ∧ Wr (x.snd.fst = x.snd.fst) ∧ Wr (x.snd.snd.fst = x.snd.snd.fst) ∧ Wr (x.snd.snd.snd.fst =
  x.snd.snd.snd.fst))) (Wr ((List.length x_1.snd.snd + List.length ((List.getD x.fst (Int.toNat x_1.fst) (Ty.zero RestT)).fst :: nilL Int)) * (8 : Nat) ≤ (140737488355328 : Nat)) ∧ Wr (SfI x.snd.fst x.snd.snd.fst
  x.snd.snd.snd.fst x.fst (IntKind.wrap IntKind.i64 (x_1.fst + (1 : Int))) x_1.snd.fst (x_1.snd.snd ++ (List.getD x.fst (Int.toNat x_1.fst) (Ty.zero RestT)).fst :: nilL Int)) ∧ Wr (List.length x.fst - Int.toNat
  (IntKind.wrap IntKind.i64 (x_1.fst + (1 : Int))) < List.length x.fst - Int.toNat x_1.fst) ∧ Wr (IntKind.wrap IntKind.i64 (x_1.fst + (1 : Int)) = IntKind.wrap IntKind.i64 (x_1.fst + (1 : Int))) ∧ Wr (x.snd.fst =
  x.snd.fst) ∧ Wr (x.snd.snd.fst = x.snd.snd.fst) ∧ Wr (x.snd.snd.snd.fst = x.snd.snd.snd.fst) ∧ Wr (x.fst = x.fst) ∧ Wr ((↑(List.length x.fst) : Int) = (↑(List.length x.fst) : Int)) ∧ Wr (x_1.snd.fst = x_1.snd.fst) ∧ Wr
  (x_1.snd.snd ++ (List.getD x.fst (Int.toNat x_1.fst) (Ty.zero RestT)).fst :: nilL Int = x_1.snd.snd ++ (List.getD x.fst (Int.toNat x_1.fst) (Ty.zero RestT)).fst :: nilL Int) ∧ Wr (x.snd.fst = x.snd.fst) ∧ Wr
  (x.snd.snd.fst = x.snd.snd.fst) ∧ Wr (x.snd.snd.snd.fst = x.snd.snd.snd.fst))) ((x_1.snd.fst, x_1.snd.snd, ()) = (sftG x.snd.fst x.snd.snd.fst x.snd.snd.snd.fst x.fst, sftO x.snd.fst x.snd.snd.fst x.snd.snd.snd.fst
  x.fst, ()))) := by kernel_rfl
end Go.Proofs.Ytdkcgcgefgeooaa.Bk
set_option linter.all false
namespace Go.Proofs.Ytdkcgcgefgeooaa.Bk
open Go Go.Eng Go.RowKit
set_option maxRecDepth 100000
set_option maxHeartbeats 8000000
theorem v78 : Vc g78 300 Try.f78 cHas := by
  constructor
  rw [v78_eq]
  simp only [Wr_iff, bcase_iff, true_and, and_true, decide_eq_true_eq, decide_eq_false_iff_not, Bool.and_eq_true, Bool.and_eq_false_iff, Bool.or_eq_true, Bool.or_eq_false_iff, Bool.not_eq_true', Bool.not_eq_false', Option.map_some, Option.getD_some, Option.isSome_some, Option.isSome_map, imp_self, nilL, noneO]
  rintro ⟨l, x, ⟨⟩⟩ _
  dsimp only
  rw [hasN, idxN]
  cases l.any (fun y => decide (y = x)) with
  | true => rw [cond_true, decide_eq_true (by omega)]
  | false => rw [cond_false]; rfl
theorem v77 : Vc g77 300 Try.f77 (cClone 68 16 RestT) := by
  constructor
  rw [v77_eq]
  simp only [Wr_iff, bcase_iff, true_and, and_true, decide_eq_true_eq, decide_eq_false_iff_not, Bool.and_eq_true, Bool.and_eq_false_iff, Bool.or_eq_true, Bool.or_eq_false_iff, Bool.not_eq_true', Bool.not_eq_false', Option.map_some, Option.getD_some, Option.isSome_some, Option.isSome_map, imp_self, nilL, noneO]
  rintro ⟨l, ⟨⟩⟩ h b hb
  dsimp only at *
  exact ⟨hb, fun _ => ⟨by simpa using h, by simp⟩⟩
theorem old_eq (since age now : Int) : decide (min (max now 0) 1073741824 ≥ min (max (IntKind.wrap .i64 (min (max since 0) 1073741824 + min (max age 0) 1073741824)) 0) 1073741824) = oldT since age now := by
  rw [wrap_id (by omega) (by omega)]
  rfl
theorem old_eq' (since age now : Int) : (min (max now 0) 1073741824 ≥ min (max (IntKind.wrap .i64 (min (max since 0) 1073741824 + min (max age 0) 1073741824)) 0) 1073741824) ↔ oldT since age now = true := by
  rw [← old_eq, decide_eq_true_eq]
theorem v85 : Vc g85 300 Try.f85 cSpent := by
  constructor
  rw [v85_eq]
  simp only [Wr_iff, bcase_iff, true_and, and_true, decide_eq_true_eq, decide_eq_false_iff_not, Bool.and_eq_true, Bool.and_eq_false_iff, Bool.or_eq_true, Bool.or_eq_false_iff, Bool.not_eq_true', Bool.not_eq_false', Option.map_some, Option.getD_some, Option.isSome_some, Option.isSome_map, imp_self, nilL, noneO]
  rintro ⟨⟨so, si, ⟨⟩⟩, p, q, r, ⟨⟩⟩ ⟨⟨h1, h2⟩, h3⟩
  dsimp only at *
  refine ⟨h1, fun _ => h2, fun _ => h3, fun h => ?_, fun h => ?_⟩
  · have h : hasN (Option.getD p []) so = false := h
    rw [old_eq, spent]
    unfold hasN at h
    rw [h]
  · have h : hasN (Option.getD p []) so = true := h
    rw [spent]
    unfold hasN at h
    rw [h]; rfl
theorem sft_lens (lo now : Int) (dead : List Int) (l : List Rs) : (sftO lo now dead l).length ≤ l.length ∧ (sftG lo now dead l).length ≤ l.length := by
  constructor
  · rw [sftO, List.length_map]; exact List.length_filter_le _ _
  · exact List.length_filter_le _ _
theorem SfI.one {lo now : Int} {dead : List Int} {l : List Rs} {i : Int} {g : List Rs} {o : List Int} (h : SfI lo now dead l i g o) (hl : l.length ≤ 1000000) (hi : i < l.length) :
    l.take (IntKind.wrap .i64 (i + 1)).toNat = l.take i.toNat ++ [l.getD i.toNat (Ty.zero RestT)] ∧ 0 ≤ IntKind.wrap .i64 (i + 1) ∧ IntKind.wrap .i64 (i + 1) ≤ l.length ∧ l.length - (IntKind.wrap .i64 (i + 1)).toNat < l.length - i.toNat ∧ (g.length + 1) * 16 ≤ 140737488355328 ∧ (o.length + 1) * 8 ≤ 140737488355328 := by
  have h0 := h.i0
  have ew : IntKind.wrap .i64 (i + 1) = i + 1 := wrap_id (by omega) (by omega)
  rw [ew]
  have e := take_succ l i (Ty.zero RestT) h0 hi
  have hg := (sft_lens lo now dead (l.take i.toNat)).2
  have ho := (sft_lens lo now dead (l.take i.toNat)).1
  rw [← h.a] at hg
  rw [← h.b] at ho
  rw [List.length_take] at hg ho
  exact ⟨e, by omega, by omega, by omega, by omega, by omega⟩
theorem SfI.bad {lo now : Int} {dead : List Int} {l : List Rs} {i : Int} {g : List Rs} {o : List Int} (h : SfI lo now dead l i g o) (hl : l.length ≤ 1000000) (hi : i < l.length) (hs : spent lo now dead (l.getD i.toNat (Ty.zero RestT)) = true) :
    SfI lo now dead l (IntKind.wrap .i64 (i + 1)) g (o ++ [(l.getD i.toNat (Ty.zero RestT)).1]) := by
  obtain ⟨e, h1, h2, _⟩ := h.one hl hi
  refine ⟨h1, h2, ?_, ?_⟩
  · rw [e, sftG, List.filter_append, h.a, sftG, List.filter_cons_of_neg (by rw [hs]; decide), List.filter_nil, List.append_nil]
  · rw [e, sftO, List.filter_append, List.map_append, h.b, sftO, List.filter_cons_of_pos hs]; rfl
theorem SfI.good {lo now : Int} {dead : List Int} {l : List Rs} {i : Int} {g : List Rs} {o : List Int} (h : SfI lo now dead l i g o) (hl : l.length ≤ 1000000) (hi : i < l.length) (hs : spent lo now dead (l.getD i.toNat (Ty.zero RestT)) = false) :
    SfI lo now dead l (IntKind.wrap .i64 (i + 1)) (g ++ [l.getD i.toNat (Ty.zero RestT)]) o := by
  obtain ⟨e, h1, h2, _⟩ := h.one hl hi
  refine ⟨h1, h2, ?_, ?_⟩
  · rw [e, sftG, List.filter_append, h.a, sftG, List.filter_cons_of_pos (by rw [hs]; rfl)]; rfl
  · rw [e, sftO, List.filter_append, List.map_append, h.b, sftO, List.filter_cons_of_neg (by rw [hs]; decide)]; simp
theorem v68 : Vc g68 300 Try.f68 cSift.T := by
  constructor
  rw [v68_eq]
  simp only [Wr_iff, bcase_iff, true_and, and_true, decide_eq_true_eq, decide_eq_false_iff_not, Bool.and_eq_true, Bool.and_eq_false_iff, Bool.or_eq_true, Bool.or_eq_false_iff, Bool.not_eq_true', Bool.not_eq_false', Option.map_some, Option.getD_some, Option.isSome_some, Option.isSome_map, imp_self, nilL, noneO]
  rintro ⟨l, lo, now, dead, ⟨⟩⟩ ⟨ht, hb⟩
  dsimp only at *
  have hl : l.length ≤ 1000000 := of_decide_eq_true hb
  refine ⟨⟨by omega, by omega, rfl, rfl⟩, fun ⟨i, g, o⟩ hu => ⟨fun hi => ?_, fun hi => ?_⟩⟩
  · dsimp only at *
    obtain ⟨e, h1, h2, h3, h4, h5⟩ := hu.one hl hi
    simp only [old_eq', old_eq]
    have hsp : spent lo now dead (l.getD i.toNat (Ty.zero RestT)) = (hasN dead (l.getD i.toNat (Ty.zero RestT)).1 || oldT (l.getD i.toNat (Ty.zero RestT)).2.1 lo now) := rfl
    refine ⟨hu.i0, hi, fun hn => ⟨fun ho => ⟨h5, hu.bad hl hi (by rw [hsp, hn, ho.resolve_left (by decide)]; rfl), h3⟩, fun ho => ⟨h4, hu.good hl hi (by rw [hsp, hn, (Bool.eq_false_iff.2 ho)]; rfl), h3⟩⟩, fun hn => ⟨h5, hu.bad hl hi (by rw [hsp, hn]; rfl), h3⟩⟩
  · have h0 := hu.i0
    have ha := hu.a
    have hb := hu.b
    dsimp only at *
    rw [List.take_of_length_le (by omega)] at ha hb
    rw [ha, hb]
end Go.Proofs.Ytdkcgcgefgeooaa.Bk
namespace Go.Proofs.Ytdkcgcgefgeooaa.Bk
open Go Go.Eng 
set_option maxRecDepth 100000
theorem val78 : Valid Try.prog GW 78 cHas := mkValid gws Tb.mix Tb.tab_ok Tb.eqs_ok g78 rfl (allV_cons val46 allV_nil) allI_nil Try.func78 (by kernel_rfl) v78
theorem val77 : Valid Try.prog GW 77 ((cClone 68 16 RestT)) := mkValid gws Tb.mix Tb.tab_ok Tb.eqs_ok g77 rfl allV_nil allI_nil Try.func77 (by kernel_rfl) v77
theorem val85 : Valid Try.prog GW 85 cSpent := mkValid gws Tb.mix Tb.tab_ok Tb.eqs_ok g85 rfl (allV_cons val78 allV_nil) (allI_cons Try.func86 (by kernel_rfl) (allI_cons Try.func102 (by kernel_rfl) (allI_cons Try.func103 (by kernel_rfl) allI_nil))) Try.func85 (by kernel_rfl) v85
theorem val68 : Valid Try.prog GW 68 cSift := Valid.T (mkValid gws Tb.mix Tb.tab_ok Tb.eqs_ok g68 rfl (allV_cons val78 allV_nil) (allI_cons Try.func75 (by kernel_rfl) (allI_cons Try.func85 (by kernel_rfl) (allI_cons Try.func86 (by kernel_rfl) (allI_cons Try.func102 (by kernel_rfl) (allI_cons Try.func103 (by kernel_rfl) allI_nil))))) Try.func68 (by kernel_rfl) v68)
end Go.Proofs.Ytdkcgcgefgeooaa.Bk
set_option linter.all false
namespace Go.Proofs.Ytdkcgcgefgeooaa.Bk
open Go.RowKit Go.Shelf Go.Eng
attribute [local go_sem] Oper.semAt_some
/-- the places, from the last one down -/
def dwn (n j : Nat) : List (Fin n) := ((List.finRange n).reverse).take j
theorem dwn_len (n j : Nat) (h : j ≤ n) : (dwn n j).length = j := by simp [dwn]; omega
theorem dwn_succ (n j : Nat) (h : j < n) : dwn n (j + 1) = dwn n j ++ [⟨n - 1 - j, by omega⟩] := by
  unfold dwn
  have hl : j < ((List.finRange n).reverse).length := by simpa using h
  rw [List.take_add_one, List.getElem?_eq_getElem hl]
  simp [List.getElem_reverse]
def encR (l : List Rs) (k : Fin l.length) : Array Value := #[.int .i64 ((k : Nat) : Int), .agg #[.int .i64 (l[k]).1, .int .i64 (l[k]).2.1]]
/-- what a slice of idle ones reads as: below n₀ -/
def Rests (n₀ : Nat) (W : World) (base : Option Addr) (l : List Rs) : Prop := ∀ k : Fin l.length, ∃ b off, base = some ⟨b, off, none⟩ ∧ b < n₀ ∧ W.cell? ⟨b, off + (k : Nat) * 2 + 0, none⟩ = some (.int .i64 (l[k]).1) ∧ W.cell? ⟨b, off + (k : Nat) * 2 + 1, none⟩ = some (.int .i64 (l[k]).2.1)
theorem Rests.below {n₀ : Nat} {A B : World} (h : Below n₀ A B) {base : Option Addr} {l : List Rs} (hI : Rests n₀ A base l) : Rests n₀ B base l := fun k => by
  obtain ⟨b, off, e, hb, hc, hd⟩ := hI k
  exact ⟨b, off, e, hb, (h.cell (p := ⟨b, _, none⟩) hb).trans hc, (h.cell (p := ⟨b, _, none⟩) hb).trans hd⟩
/-- what a round keeps -/
structure Kp (n₀ bf : Nat) (f : Value) (A B : World) : Prop where
  below : Below n₀ A B
  box : Boxed A bf 24 f → Boxed B bf 24 f
theorem Kp.refl (n₀ bf : Nat) (f : Value) (A : World) : Kp n₀ bf f A A := ⟨Below.refl _ _, id⟩
theorem Kp.trans {n₀ bf : Nat} {f : Value} {A B C : World} (h : Kp n₀ bf f A B) (k : Kp n₀ bf f B C) : Kp n₀ bf f A C := ⟨h.below.trans k.below, fun x => k.box (h.box x)⟩
theorem kp_b {n₀ bf : Nat} {f : Value} {w : World} (hn : n₀ ≤ w.heap.size) (hb : bf < w.heap.size) (W : World) (l : Nat) (o o' : Obj) (hl : w.heap.size ≤ l) (h : W.heap[l]? = some o) (h1 : o.isCells = false) (h2 : o.isWalk = false) : Kp n₀ bf f W (W.putObj l o') :=
  ⟨belowK_b hn W l o o' hl h h1 h2, fun hx => hx.kept (grownBy_putObj' W l o') (by intro e; cases e; omega)⟩
set_option maxRecDepth 100000 in
set_option maxHeartbeats 2000000 in
theorem back1_in (n : Nat) (hn : 1 ≤ n) (lp Bs n₀ cap : Nat) (base : Option Addr) (l : List Rs) (hl : l.length ≤ 1000000) (J Jx : List (Fin l.length) → World → Prop)
    (hY : ∀ pre x W, J pre W → pre.length < l.length → YieldAt W0 (n - 1) Try.prog lp (encR l x) W fun e W' =>
      (e = .returned (.bool true) ∧ J (pre ++ [x]) W' ∧ Kp n₀ Bs (.slice base l.length cap) W W') ∨ (e = .returned (.bool false) ∧ Jx (pre ++ [x]) W'))
    (W : World) (hBs : Boxed W Bs 24 (.slice base l.length cap)) (hI : Rests n₀ W base l) (h0 : J [] W) :
    CallsIn W0 n Try.prog 87 #[.func (.yield lp) #[] #[], .pointer (some ⟨Bs, 0, none⟩)] W fun e W' => (∃ v, e = .returned v) ∧
      ((∃ ys, ys = dwn l.length l.length ∧ J ys W') ∨ (∃ pre, (∃ j, j < l.length ∧ pre = dwn l.length (j + 1)) ∧ Jx pre W')) := by
  refine callsIn_of_wp Try.func87 rfl (wide_fn _) ?_ wide_ro
  simp only [Try.ntmps87, List.size_toArray, List.length_cons, List.length_nil, Nat.reduceAdd, Nat.reduceSub, Array.replicate_succ, Array.replicate_zero, List.push_toArray, List.append_toArray, List.nil_append, List.cons_append]
  have c0 := hBs.cell
  have f0 := hBs.frozen
  gi_wp2
  gi_loopw [3] (fun i wr => ∃ k : Nat, k ≤ l.length ∧ i = .int .i64 ((l.length : Int) - 1 - k) ∧ J (dwn l.length k) wr ∧ Kp n₀ Bs (.slice base l.length cap) W wr)
    (fun i _ => (intOf i + 1).toNat)
  case atStart => exact ⟨0, Nat.zero_le _, by simp, h0, Kp.refl _ _ _ _⟩
  case round =>
    obtain ⟨k, hk, rfl, hJs, hnx⟩ := hrel
    have hB := hnx.box hBs
    have c1 := hB.cell
    have f1 := hB.frozen
    by_cases hlt : k < l.length
    · obtain ⟨m, hm⟩ : ∃ m : Nat, m + k + 1 = l.length := ⟨l.length - 1 - k, by omega⟩
      have hml : m < l.length := by omega
      have em : (l.length : Int) - 1 - k = (m : Int) := by omega
      rw [em]
      obtain ⟨b, off, rfl, hb, hc1, hc2⟩ := (hI.below hnx.below) ⟨m, hml⟩
      have hc1 : wr.cell? ⟨b, off + m * 2 + 0, none⟩ = some (.int .i64 (l[m]).1) := hc1
      have hc2 : wr.cell? ⟨b, off + m * 2 + 1, none⟩ = some (.int .i64 (l[m]).2.1) := hc2
      simp only [Nat.add_zero] at hc1
      have hd : dwn l.length (k + 1) = dwn l.length k ++ [⟨m, hml⟩] := by rw [dwn_succ _ _ hlt]; congr 3; omega
      obtain ⟨fn, tmps, assign, body, hy, hR⟩ := hY _ ⟨m, hml⟩ wr hJs (by rw [dwn_len _ _ hk]; exact hlt)
      have hy : (Instr.yield lp #[.int .i64 (m : Int), .agg #[.int .i64 (l[m]).1, .int .i64 (l[m]).2.1]]).run Try.prog wr = _ := hy
      generalize (l[m]).1 = q1 at *
      generalize (l[m]).2.1 = q2 at *
      gi_wp2
      refine hR.mono ?_
      rintro e W3 (⟨rfl, hJ3, hk3⟩ | ⟨rfl, hJx3⟩)
      · gi_wp2
        go_roundw
        case rel => exact ⟨k + 1, by omega, by simp; omega, by rw [hd]; exact hJ3, hnx.trans hk3⟩
        case measure => simp [intOf]
      · gi_wp2
        refine bodyPost_ret (results_none rfl _ _ _) rfl ?_
        exact ⟨⟨_, rfl⟩, .inr ⟨_, ⟨k, hlt, rfl⟩, by rw [hd]; exact hJx3⟩⟩
    · obtain rfl : k = l.length := by omega
      have em : (l.length : Int) - 1 - l.length = -1 := by omega
      rw [em]
      gi_wp2
      go_end0
      exact ⟨⟨_, rfl⟩, .inl ⟨_, rfl, hJs⟩⟩
theorem back_stops (n : Nat) (hn : 1 ≤ n) (Bs n₀ cap : Nat) (base : Option Addr) (l : List Rs) (hl : l.length ≤ 1000000) (w : World) (hBs : Boxed w Bs 24 (.slice base l.length cap)) (hn₀ : n₀ ≤ w.heap.size) (hI : Rests n₀ w base l) :
    SeqStopsK W0 n Try.prog 87 #[.pointer (some ⟨Bs, 0, none⟩)] (encR l) (Kp n₀ Bs (.slice base l.length cap)) (fun ys => ys = dwn l.length l.length) (fun pre => ∃ j, j < l.length ∧ pre = dwn l.length (j + 1)) l.length w := fun lp J Jx W hW _ _ hY h0 =>
  back1_in n hn lp Bs n₀ cap base l hl J Jx hY W ((hW.block Bs hBs.lt).trans hBs) (hI.below (hW.mono hn₀)) h0
set_option maxHeartbeats 1000000 in
theorem back_in (n : Nat) (a : Option Addr) (len cap : Nat) (w : World) :
    CallsIn W0 n Try.prog 76 #[.slice a len cap] w fun e w' => e = .returned (.func (.func 87) #[] #[.pointer (some ⟨w.heap.size, 0, none⟩)]) ∧ w' = w.alloc (.cells #[.slice a len cap] 24) := by
  refine callsIn_of_wp Try.func76 rfl (wide_fn _) ?_ wide_ro
  simp only [Try.ntmps76, List.size_toArray, List.length_cons, List.length_nil, Nat.reduceAdd, Nat.reduceSub, Array.replicate_succ, Array.replicate_zero, List.push_toArray, List.append_toArray, List.nil_append, List.cons_append]
  gi_wp2
  go_ret
  exact ⟨rfl, rfl⟩
set_option maxHeartbeats 1000000 in
theorem spent_in (n : Nat) (x y : Int) (b : Option Addr) (m c : Nat) (w : World) :
    CallsIn W0 n Try.prog 75 #[.int .i64 x, .int .i64 y, .slice b m c] w fun e w' => e = .returned (.func (.func 85) #[] #[.pointer (some ⟨w.heap.size + 1 + 1, 0, none⟩), .pointer (some ⟨w.heap.size, 0, none⟩), .pointer (some ⟨w.heap.size + 1, 0, none⟩)]) ∧ w' = ((w.alloc (.cells #[.int .i64 x] 3)).alloc (.cells #[.int .i64 y] 3)).alloc (.cells #[.slice b m c] 25) := by
  refine callsIn_of_wp Try.func75 rfl (wide_fn _) ?_ wide_ro
  simp only [Try.ntmps75, List.size_toArray, List.length_cons, List.length_nil, Nat.reduceAdd, Nat.reduceSub, Array.replicate_succ, Array.replicate_zero, List.push_toArray, List.append_toArray, List.nil_append, List.cons_append]
  gi_wp2
  go_ret
  exact ⟨rfl, rfl⟩
theorem wpW_scope {n : Nat} {P : Program} {c : Code} {Q : Exit → Act → World → Prop} {a : Act} {w : World} (h : c.wpIn W0 n P (Exit.noGoto Q) a w) : (Code.scope c).wpIn W0 n P Q a w := wpIn_wide.2 (wp_scope_straight (wpIn_wide.1 h))
theorem wpQuietIn_do {F : Fence} {n : Nat} {P : Program} {ops : Array Oper} {C : World → Prop} {Q : Act → Prop} {a : Act} {o : Oper} {rest : List Oper} (hg : o.guard = none) (v : Value) (ha : o.askedIn F P a C) (h : ∀ w, C w → o.quietAtIn F n P a C w v)
    (hn : wpQuietIn F n P ops C Q rest (a.put o.dst v)) : wpQuietIn F n P ops C Q (o :: rest) a := by
  refine ⟨ha, ?_⟩
  rw [if_pos (by unfold Region.wanted; rw [hg])]
  exact ⟨v, h, hn⟩
theorem setCell_id {W : World} {b : Nat} {t : TypeId} {v : Value} (h : Boxed W b t v) : W.setCell ⟨b, 0, none⟩ v = W := by
  obtain ⟨hlt, hk⟩ := Array.getElem?_eq_some_iff.1 h
  have e : ∀ f : Obj → Obj, f W.heap[b] = W.heap[b] → W.heap.modify b f = W.heap := fun f hf => by
    apply Array.ext
    · rw [Array.size_modify]
    · intro i h1 h2
      rw [Array.getElem_modify]
      split
      · rename_i e; subst e; exact hf
      · rfl
  unfold World.setCell
  show ({ W with heap := W.heap.modify b _ } : World) = W
  rw [e]
  rw [hk]; rfl
theorem run_store_func {P : Program} {w : World} {a : Addr} {m : Mode} (g : Fn) (fs cs : Array Value) : (store a (.func g fs cs) m).run P w = stored P w a (.func g fs cs) m := run_store P w a _ m rfl
attribute [local go_sem] run_store_func
/-- the closure that tells who is spent -/
def clo (q : Nat) : Value := .func (.func 85) #[] #[.pointer (some ⟨q + 1 + 1, 0, none⟩), .pointer (some ⟨q, 0, none⟩), .pointer (some ⟨q + 1, 0, none⟩)]
/-- what stays in Top's boxes -/
structure TopB (base : Option Addr) (n cap a q : Nat) (x y : Int) (sd : Value) (w W : World) : Prop where
  b4 : Boxed W a 24 (.slice base n cap)
  cl : Boxed W q 3 (.int .i64 x)
  cn : Boxed W (q + 1) 3 (.int .i64 y)
  cd : Boxed W (q + 1 + 1) 25 sd
  b12 : Boxed W (q + 1 + 1 + 1) 118 (clo q)
  hB : Below a w W
theorem TopB.kept {base : Option Addr} {n cap a q : Nat} {x y : Int} {sd : Value} {w A B : World} {row : Option Nat} (h : TopB base n cap a q x y sd w A) (hg : A.grownBy B row) (hr : ∀ r, row = some r → a < r ∧ r ≠ q ∧ r ≠ q + 1 ∧ r ≠ q + 1 + 1 ∧ r ≠ q + 1 + 1 + 1) : TopB base n cap a q x y sd w B :=
  ⟨h.b4.kept hg (fun e => by have := hr _ e.symm; omega), h.cl.kept hg (fun e => by have := hr _ e.symm; omega), h.cn.kept hg (fun e => by have := hr _ e.symm; omega), h.cd.kept hg (fun e => by have := hr _ e.symm; omega), h.b12.kept hg (fun e => by have := hr _ e.symm; omega), h.hB.grown hg (Nat.le_of_lt h.b4.lt) (fun k e => by have := (hr k e).1; omega)⟩
theorem TopB.below {base : Option Addr} {n cap a q : Nat} {x y : Int} {sd : Value} {w A B : World} {m : Nat} (h : TopB base n cap a q x y sd w A) (hb : Below m A B) (hm : a + 1 ≤ m) (hq : q + 4 ≤ m) : TopB base n cap a q x y sd w B :=
  ⟨(hb.block _ (by omega)).trans h.b4, (hb.block _ (by omega)).trans h.cl, (hb.block _ (by omega)).trans h.cn, (hb.block _ (by omega)).trans h.cd, (hb.block _ (by omega)).trans h.b12, h.hB.trans (hb.mono (by omega))⟩
theorem topB_new {base : Option Addr} {n cap a q : Nat} {x y : Int} {sd : Value} {w W1 : World} (b4 : Boxed W1 a 24 (.slice base n cap)) (hB : Below a w W1) (hz : W1.heap.size = q) :
    TopB base n cap a q x y sd w ((((W1.alloc (.cells #[.int .i64 x] 3)).alloc (.cells #[.int .i64 y] 3)).alloc (.cells #[sd] 25)).alloc (.cells #[clo q] 118)) := by
  have n1 := Boxed.new W1 3 (.int .i64 x)
  have n2 := Boxed.new (W1.alloc (.cells #[.int .i64 x] 3)) 3 (.int .i64 y)
  have n3 := Boxed.new ((W1.alloc (.cells #[.int .i64 x] 3)).alloc (.cells #[.int .i64 y] 3)) 25 sd
  have n4 := Boxed.new (((W1.alloc (.cells #[.int .i64 x] 3)).alloc (.cells #[.int .i64 y] 3)).alloc (.cells #[sd] 25)) 118 (clo q)
  have h4 := b4.lt
  simp only [World.size_alloc, hz] at n1 n2 n3 n4
  exact ⟨(((b4.alloc _).alloc _).alloc _).alloc _, ((n1.alloc _).alloc _).alloc _, (n2.alloc _).alloc _, n3.alloc _, n4, (((hB.alloc (by omega) _).alloc (by simp; omega) _).alloc (by simp; omega) _).alloc (by simp; omega) _⟩
theorem ownsRow_down {w : World} {A B : Nat} {e : TypeId} {size n : Nat} {v : Value} {xs : List Value} (h : w.ownsRow B e size v n xs) (hA : A ≤ B) : w.ownsRow A e size v n xs := by
  refine ⟨h.1, ?_⟩
  rcases h.2 with hn | ⟨g, cap, cur, rfl, hb, r⟩
  · exact .inl hn
  · exact .inr ⟨g, cap, cur, rfl, Nat.le_trans hA hb, r⟩
theorem spent_at {base : Option Addr} {n cap a q : Nat} {x y : Int} {b : Option Addr} {m c : Nat} {w W : World} (N lp : Nat) (dead : List Int) (S : Nat → Prop) (hS : ∀ k, S k → k < a) (hd : RdC Try.prog IL S w dead [.slice b m c]) (hx : IntKind.wrap .i64 x = x) (hy : IntKind.wrap .i64 y = y)
    (q1 q2 : Int) (h1 : IntKind.wrap .i64 q1 = q1) (h2 : IntKind.wrap .i64 q2 = q2) (hT : TopB base n cap a q x y (.slice b m c) w W) :
    CallsIn (W0.inRound lp) N Try.prog 85 #[.agg #[.int .i64 q1, .int .i64 q2], .pointer (some ⟨q + 1 + 1, 0, none⟩), .pointer (some ⟨q, 0, none⟩), .pointer (some ⟨q + 1, 0, none⟩)] W fun e W' => e = .returned (.bool (spent x y dead (q1, q2, ()))) ∧ Below W.heap.size W W' := by
  have hlt := hT.b12.lt
  have hla := hT.b4.lt
  have hone : ∀ (B : Nat) (t : TypeId) (v : Value), Boxed W B t v → Lies W B 0 [v] := fun B t v hb j u hu => by
    match j, hu with
    | 0, hu => cases hu; exact hb.cell
    | j + 1, hu => cases hu
  have h := val85.2 W trivial (fun k => k < W.heap.size) ((q1, q2, ()), some dead, some x, some y, ()) [.int .i64 q1, .int .i64 q2, .pointer (some ⟨q + 1 + 1, 0, none⟩), .pointer (some ⟨q, 0, none⟩), .pointer (some ⟨q + 1, 0, none⟩)] (fun _ h => h)
    ⟨[_, _], [_, _, _], rfl, ⟨[_], [_], rfl, ⟨rfl, h1⟩, [_], [], rfl, ⟨rfl, h2⟩, rfl⟩, [_], [_, _], rfl, ⟨q + 1 + 1, 0, [.slice b m c], rfl, by omega, hd.mono (fun k hk => ⟨by have := hS k hk; omega, hT.hB.block k (hS k hk)⟩), hone _ _ _ hT.cd⟩, [_], [_], rfl, ⟨q, 0, [.int .i64 x], rfl, by omega, ⟨rfl, hx⟩, hone _ _ _ hT.cl⟩, [_], [], rfl, ⟨q + 1, 0, [.int .i64 y], rfl, by omega, ⟨rfl, hy⟩, hone _ _ _ hT.cn⟩, rfl⟩ rfl
  have h : CallsIn (W0.inRound lp) N Try.prog 85 _ W _ := (callsIn_wide (n := N)).2 h
  refine CallsIn.mono h ?_
  rintro e W' ⟨hb, rs, rfl, hr, _⟩
  obtain ⟨c1, c2, rfl, hc1, hc2⟩ := hr
  obtain rfl : c1 = [.bool (spent x y dead (q1, q2, ()))] := hc1
  obtain rfl : c2 = [] := hc2
  exact ⟨rfl, hb⟩
def lastK {n : Nat} (pre : List (Fin n)) : Nat := match pre.getLast? with
  | some k => k.1
  | none => 0
def sockV (l : List Rs) (k : Fin l.length) : Value := .int .i64 (l[k]).1
def restV (l : List Rs) : List Value := l.flatMap fun r => [.int .i64 r.1, .int .i64 r.2.1]
/-- what Top's boxes say between two rounds -/
def TopI (base : Option Addr) (cap a q p8 p9 p10 p11 : Nat) (l : List Rs) (x y : Int) (dead : List Int) (sd : Value) (w : World) (pre : List (Fin l.length)) (W : World) : Prop :=
  (∃ v, Boxed W p10 25 v ∧ W.ownsRow (q + 1 + 1 + 1 + 1 + 1) 3 1 v pre.length (pre.map (sockV l)) ∧ True) ∧
  (TopB base l.length cap a q x y sd w W ∧ Boxed W p8 3 (.int .i64 (-1)) ∧ Boxed W p9 24 (.slice none 0 0) ∧ Boxed W p11 4 (.bool false) ∧ (∀ k ∈ pre, spent x y dead l[k] = true) ∧ q + 1 + 1 + 1 + 1 < W.heap.size)
/-- .. and where a round breaks off -/
def TopX (base : Option Addr) (cap a q p8 p9 p10 p11 : Nat) (l : List Rs) (x y : Int) (dead : List Int) (sd : Value) (w : World) (c : Code) (pre : List (Fin l.length)) (W : World) : Prop :=
  (∃ v, Boxed W p10 25 v ∧ W.ownsRow (q + 1 + 1 + 1 + 1 + 1) 3 1 v pre.dropLast.length (pre.dropLast.map (sockV l)) ∧ True) ∧
  (∃ v, Boxed W p9 24 v ∧ W.ownsRow (q + 1 + 1 + 1 + 1 + 1) 68 2 v (lastK pre) (restV (l.take (lastK pre))) ∧ True) ∧
  (TopB base l.length cap a q x y sd w W ∧ Boxed W p8 3 (.int .i64 (l.getD (lastK pre) (0, 0, ())).1) ∧ Boxed W p11 4 (.bool true) ∧ c = .exit 0 ∧ ∃ k pre', pre = pre' ++ [k] ∧ (∀ k ∈ pre', spent x y dead l[k] = true) ∧ spent x y dead l[k] = false)
theorem TopB.own {β : Type} {base : Option Addr} {n cap a q : Nat} {x y : Int} {sd : Value} {w : World} {B : Nat} (ha : a < B) (hq : q + 1 + 1 + 1 < B) : OwnFrom B (fun (_ : β) W => TopB base n cap a q x y sd w W) := fun _ A C row hs hg hr =>
  hs.kept hg (fun r e => by have := (hr r e).1; omega)
theorem boxed_from {β : Type} {B b : Nat} (t : TypeId) (f : β → Value) : OwnFrom B (fun s W => Boxed W b t (f s)) := (boxed_own b t f).from B
theorem size_own {β : Type} {B m : Nat} : OwnFrom B (fun (_ : β) W => m < W.heap.size) := fun _ A C row hs hg _ => Nat.lt_of_lt_of_le hs hg.size
theorem topI_own {base : Option Addr} {cap a q p8 p9 p10 p11 : Nat} {l : List Rs} {x y : Int} {dead : List Int} {sd : Value} {w : World} {B : Nat} (ha : a < B) (hq : q + 1 + 1 + 1 < B) : OwnFrom B (TopI base cap a q p8 p9 p10 p11 l x y dead sd w) :=
  ((holdsRow_own (q + 1 + 1 + 1 + 1 + 1) p10 25 3 1 (fun pre : List (Fin l.length) => pre.length) (fun pre => pre.map (sockV l)) (fun _ _ => True)).from B).and
    ((TopB.own ha hq).and ((boxed_from 3 _).and ((boxed_from 24 _).and ((boxed_from 4 _).and ((ownFrom_pure B _).and size_own)))))
theorem topX_own {base : Option Addr} {cap a q p8 p9 p10 p11 : Nat} {l : List Rs} {x y : Int} {dead : List Int} {sd : Value} {w : World} {B : Nat} (ha : a < B) (hq : q + 1 + 1 + 1 < B) (c : Code) : OwnFrom B (TopX base cap a q p8 p9 p10 p11 l x y dead sd w c) :=
  ((holdsRow_own (q + 1 + 1 + 1 + 1 + 1) p10 25 3 1 (fun pre : List (Fin l.length) => pre.dropLast.length) (fun pre => pre.dropLast.map (sockV l)) (fun _ _ => True)).from B).and
    (((holdsRow_own (q + 1 + 1 + 1 + 1 + 1) p9 24 68 2 (fun pre : List (Fin l.length) => lastK pre) (fun pre => restV (l.take (lastK pre))) (fun _ _ => True)).from B).and
    ((TopB.own ha hq).and ((boxed_from 3 _).and ((boxed_from 4 _).and (ownFrom_pure B _)))))
/-- how a round begins -/
def TopA (base : Option Addr) (cap a q p8 p9 p10 p11 : Nat) (l : List Rs) (x y : Int) (sd : Value) (k : Fin l.length) (a' : Act) (W : World) : Prop :=
  ∃ tb, a' = { tmps := #[.slice base l.length cap, .int .i64 x, .int .i64 y, sd, .pointer (some ⟨a, 0, none⟩), undef, undef, undef, .pointer (some ⟨p8, 0, none⟩), .pointer (some ⟨p9, 0, none⟩), .pointer (some ⟨p10, 0, none⟩), .pointer (some ⟨p11, 0, none⟩), .pointer (some ⟨q + 1 + 1 + 1, 0, none⟩), .int .i64 ((k : Nat) : Int), .pointer (some ⟨tb, 0, none⟩), .int .i64 x, .int .i64 y, sd, clo q, .slice base l.length cap, .func (.func 87) #[] #[.pointer (some ⟨q + 1 + 1 + 1 + 1, 0, none⟩)], .int .i64 ((k : Nat) : Int), .agg #[.int .i64 (l[k]).1, .int .i64 (l[k]).2.1], undef, undef, undef, undef, undef, undef, undef, undef, undef, undef, undef, undef, undef, undef, undef, undef, undef, undef, undef], defers := [] } ∧
    q + 1 + 1 + 1 + 1 < tb ∧ W.heap[tb]? = some (.cells #[.int .i64 (l[k]).1, .int .i64 (l[k]).2.1] 68 (0, 0))
theorem topA_own {base : Option Addr} {cap a q p8 p9 p10 p11 : Nat} {l : List Rs} {x y : Int} {sd : Value} {B : Nat} (k : Fin l.length) (a' : Act) : OwnFrom B (fun (_ : Unit) W => TopA base cap a q p8 p9 p10 p11 l x y sd k a' W) := fun _ A C row hs hg hr => by
  obtain ⟨tb, e, h1, h2⟩ := hs
  refine ⟨tb, e, h1, (hg.block tb (Array.getElem?_eq_some_iff.1 h2).1 (fun e' => ?_)).trans h2⟩
  obtain ⟨_, o, ho, hc⟩ := hr tb e'.symm
  rw [h2] at ho; cases ho; cases hc
theorem rdL_rests {P : Program} {S : Nat → Prop} {w : World} : ∀ {l : List Rs} {cs : List Value}, RdL P RestT S w l cs → cs = restV l
  | [], _, h => h
  | (so, si, ⟨⟩) :: r, _, h => by
    obtain ⟨c1, c2, rfl, hx, hr⟩ := h
    obtain ⟨d1, d2, rfl, ⟨rfl, _⟩, d3, d4, rfl, ⟨rfl, _⟩, rfl⟩ := hx
    rw [rdL_rests hr]
    rfl
theorem clone_at {base : Option Addr} {cap a : Nat} {w W : World} (N lp : Nat) (l : List Rs) (hl : l.length ≤ 1000000) (S : Nat → Prop) (hS : ∀ k, S k → k < a) (hR : RdC Try.prog (.sl RestT) S w l [.slice base l.length cap]) (kk : Nat) (hk : kk < l.length) (hB : Below a w W) (ha : a ≤ W.heap.size) :
    CallsIn (W0.inRound lp) N Try.prog 77 #[.slice base kk cap] W fun e W' => ∃ x c, e = .returned (.slice x kk c) ∧ W'.ownsRow W.heap.size 68 2 (.slice x kk c) kk (restV (l.take kk)) ∧ Below W.heap.size W W' := by
  obtain ⟨base', cap', he, h1, h2, h3⟩ := hR
  obtain ⟨rfl, rfl⟩ : base = base' ∧ cap = cap' := by
    injection he with he _
    injection he with h1 _ h2
    exact ⟨h1, h2⟩
  have hlen : List.length (α := Rs) (l.take kk) = kk := by rw [List.length_take]; omega
  have hR2 : RdC Try.prog (.sl RestT) S W (l.take kk) [.slice base kk cap] := by
    refine ⟨base, cap, by rw [hlen], by rw [hlen]; exact Nat.le_trans (Nat.le_of_lt hk) h1, h2, fun hne => ?_⟩
    obtain ⟨b, off, e, hb, hel⟩ := h3 (fun e => hne (by rw [show l = ([] : List Rs) from e]; exact List.take_nil))
    refine ⟨b, off, e, hb, fun i x hx => ?_⟩
    have hx' : (l : List Rs)[i]? = some x := by
      have hi : i < kk := by
        have h := (List.getElem?_eq_some_iff.1 hx).1
        rw [hlen] at h
        exact h
      rw [← hx]
      exact (List.getElem?_take_of_lt hi).symm
    obtain ⟨es, he1, he2⟩ := hel i x hx'
    exact ⟨es, he1.mono (fun z hz => ⟨hz, hB.block z (hS z hz)⟩), he2.mono (hB.block b (hS b hb))⟩
  have h := val77.2 W trivial S ((l.take kk : List Rs), ()) [.slice base kk cap] (fun z hz => Nat.lt_of_lt_of_le (hS z hz) ha) ⟨[_], [], rfl, hR2, rfl⟩ (by
    show decide (List.length (α := Rs) (l.take kk) * 16 ≤ 140737488355328) = true
    rw [hlen]
    exact decide_eq_true (by omega))
  have h : CallsIn (W0.inRound lp) N Try.prog 77 _ W _ := (callsIn_wide (n := N)).2 h
  refine CallsIn.mono h ?_
  rintro e W' ⟨hb, v, cs, rfl, _, _, hrow, hrd⟩
  have hrow : W'.ownsRow W.heap.size 68 2 v (List.length (α := Rs) (l.take kk)) cs := hrow
  rw [hlen, rdL_rests hrd] at hrow
  rcases hrow.2 with ⟨rfl, h0⟩ | ⟨g, c, cur, rfl, _⟩
  · subst h0
    exact ⟨none, 0, rfl, hrow, hb⟩
  · exact ⟨some ⟨g, 0, none⟩, c, rfl, hrow, hb⟩
def findR (id : Nat) : Code → Option (Array Oper)
  | .region i ops _ => if i = id then some ops else none
  | .seq a b => match findR id a with
    | some r => some r
    | none => findR id b
  | .cond _ a b => match findR id a with
    | some r => some r
    | none => findR id b
  | .block _ b => findR id b
  | .scope b => findR id b
  | .loop b => findR id b
  | .rangeFunc _ _ a b => match findR id a with
    | some r => some r
    | none => findR id b
  | _ => none
theorem any_named {F : Fence} {n : Nat} {P : Program} {md : Region.Mode} {Q : Exit → Act → World → Prop} {ops : Array Oper} {a : Act} {w : World} (h : ∀ ops', ops' = ops → wpAnyIn F n P md ops' Q ops'.size (Array.replicate ops'.size false) a w) : wpAnyIn F n P md ops Q ops.size (Array.replicate ops.size false) a w := h _ rfl
set_option maxRecDepth 100000 in
set_option maxHeartbeats 4000000 in
theorem reg7 {ops : Array Oper} (hops : findR 7 (Try.f59.body.getD .skip) = some ops) {lp a p8 p9 p11 tb cap kk n : Nat} {base : Option Addr} {l : List Rs} {w2 : World} {Q : Exit → Act → World → Prop} {v8 v9 v11 : Value} {q1 q2 : Int} {z0 z1 z2 z3 z5 z6 z7 z10 z12 z15 z16 z17 z18 z19 z20 z21 z22 z23 z24 z25 z26 z33 z34 z35 z36 z37 z38 z39 z40 z41 : Value}
    (b4 : Boxed w2 a 24 (.slice base n cap)) (b8 : Boxed w2 p8 3 v8) (b9 : Boxed w2 p9 24 v9) (b11 : Boxed w2 p11 4 v11) (hn : kk < n) (hcap : n ≤ cap) (h89 : p8 ≠ p9) (h811 : p8 ≠ p11) (h911 : p9 ≠ p11)
    (hbox : w2.heap[tb]? = some (.cells #[.int .i64 q1, .int .i64 q2] 68 (0, 0)))
    (hcall : ∀ w', Below w2.heap.size w2 w' → CallsIn (W0.inRound lp) (3 - 1 - 1 - 1) Try.prog 77 #[.slice base kk cap] w' fun e w'' => ∃ x c, e = .returned (.slice x kk c) ∧ w''.ownsRow w2.heap.size 68 2 (.slice x kk c) kk (restV (l.take kk)) ∧ Below w'.heap.size w' w'')
    (hQ : ∀ x c w', Below w2.heap.size w2 w' → w'.ownsRow w2.heap.size 68 2 (.slice x kk c) kk (restV (l.take kk)) → Q .normal { tmps := #[z0, z1, z2, z3, .pointer (some ⟨a, 0, none⟩), z5, z6, z7, .pointer (some ⟨p8, 0, none⟩), .pointer (some ⟨p9, 0, none⟩), z10, .pointer (some ⟨p11, 0, none⟩), z12, .int .i64 (kk : Int), .pointer (some ⟨tb, 0, none⟩), z15, z16, z17, z18, z19, z20, z21, z22, z23, z24, z25, z26, .pointer (some ⟨tb, 0, none⟩), .int .i64 q1, .slice base n cap, .int .i64 (kk : Int), .slice base kk cap, .slice x kk c, z33, z34, z35, z36, z37, z38, z39, z40, z41], defers := [] } (((w'.setCell ⟨p8, 0, none⟩ (.int .i64 q1)).setCell ⟨p9, 0, none⟩ (.slice x kk c)).setCell ⟨p11, 0, none⟩ (.bool true))) :
    (Code.region 7 ops true).wpIn (W0.inRound lp) (3 - 1 - 1) Try.prog Q { tmps := #[z0, z1, z2, z3, .pointer (some ⟨a, 0, none⟩), z5, z6, z7, .pointer (some ⟨p8, 0, none⟩), .pointer (some ⟨p9, 0, none⟩), z10, .pointer (some ⟨p11, 0, none⟩), z12, .int .i64 (kk : Int), .pointer (some ⟨tb, 0, none⟩), z15, z16, z17, z18, z19, z20, z21, z22, z23, z24, z25, z26, undef, undef, undef, undef, undef, undef, z33, z34, z35, z36, z37, z38, z39, z40, z41], defers := [] } w2 := by
  have hl : findR 7 (Try.f59.body.getD .skip) = some _ := rfl
  rw [hl] at hops
  cases hops
  clear hl
  dsimp only at hQ ⊢
  refine wpIn_region_any (by kernel_rfl) ?_
  refine any_named fun ops' hops => ?_
  have hsz : ops'.size = 9 := by rw [hops]; rfl
  rw [hsz]
  have st0 : ∀ (K : Act → World → Prop) (w' : World) (u27 u28 u29 u30 u31 u32 : Value), Below w2.heap.size w2 w' → K { tmps := #[z0, z1, z2, z3, .pointer (some ⟨a, 0, none⟩), z5, z6, z7, .pointer (some ⟨p8, 0, none⟩), .pointer (some ⟨p9, 0, none⟩), z10, .pointer (some ⟨p11, 0, none⟩), z12, .int .i64 (kk : Int), .pointer (some ⟨tb, 0, none⟩), z15, z16, z17, z18, z19, z20, z21, z22, z23, z24, z25, z26, .pointer (some ⟨tb, 0, none⟩), u28, u29, u30, u31, u32, z33, z34, z35, z36, z37, z38, z39, z40, z41], defers := [] } w' → wpOpIn (W0.inRound lp) (3 - 1 - 1) Try.prog ops' Q 0 K { tmps := #[z0, z1, z2, z3, .pointer (some ⟨a, 0, none⟩), z5, z6, z7, .pointer (some ⟨p8, 0, none⟩), .pointer (some ⟨p9, 0, none⟩), z10, .pointer (some ⟨p11, 0, none⟩), z12, .int .i64 (kk : Int), .pointer (some ⟨tb, 0, none⟩), z15, z16, z17, z18, z19, z20, z21, z22, z23, z24, z25, z26, u27, u28, u29, u30, u31, u32, z33, z34, z35, z36, z37, z38, z39, z40, z41], defers := [] } w' := by
    intro K w' u27 u28 u29 u30 u31 u32 hb hK
    rw [hops]
    unfold wpOpIn
    simp only [Region.wanted, List.getElem?_toArray, List.getElem?_cons_zero, List.getElem?_cons_succ, if_true]
    unfold Oper.wpIn
    go_simp
    try exact hK
  have st1 : ∀ (K : Act → World → Prop) (w' : World) (u27 u28 u29 u30 u31 u32 : Value), Below w2.heap.size w2 w' → K { tmps := #[z0, z1, z2, z3, .pointer (some ⟨a, 0, none⟩), z5, z6, z7, .pointer (some ⟨p8, 0, none⟩), .pointer (some ⟨p9, 0, none⟩), z10, .pointer (some ⟨p11, 0, none⟩), z12, .int .i64 (kk : Int), .pointer (some ⟨tb, 0, none⟩), z15, z16, z17, z18, z19, z20, z21, z22, z23, z24, z25, z26, .pointer (some ⟨tb, 0, none⟩), .int .i64 q1, u29, u30, u31, u32, z33, z34, z35, z36, z37, z38, z39, z40, z41], defers := [] } w' → wpOpIn (W0.inRound lp) (3 - 1 - 1) Try.prog ops' Q 1 K { tmps := #[z0, z1, z2, z3, .pointer (some ⟨a, 0, none⟩), z5, z6, z7, .pointer (some ⟨p8, 0, none⟩), .pointer (some ⟨p9, 0, none⟩), z10, .pointer (some ⟨p11, 0, none⟩), z12, .int .i64 (kk : Int), .pointer (some ⟨tb, 0, none⟩), z15, z16, z17, z18, z19, z20, z21, z22, z23, z24, z25, z26, .pointer (some ⟨tb, 0, none⟩), u28, u29, u30, u31, u32, z33, z34, z35, z36, z37, z38, z39, z40, z41], defers := [] } w' := by
    intro K w' u27 u28 u29 u30 u31 u32 hb hK
    have hx : w'.cell? ⟨tb, 0, none⟩ = some (.int .i64 q1) := (hb.cell (p := ⟨tb, 0, none⟩) (Array.getElem?_eq_some_iff.1 hbox).1).trans (by simp [World.cell?, hbox])
    rw [hops]
    unfold wpOpIn
    simp only [Region.wanted, List.getElem?_toArray, List.getElem?_cons_zero, List.getElem?_cons_succ, if_true]
    unfold Oper.wpIn
    go_simp
    try exact hK
  have st2 : ∀ (K : Act → World → Prop) (w' : World) (u27 u28 u29 u30 u31 u32 : Value), Below w2.heap.size w2 w' → K { tmps := #[z0, z1, z2, z3, .pointer (some ⟨a, 0, none⟩), z5, z6, z7, .pointer (some ⟨p8, 0, none⟩), .pointer (some ⟨p9, 0, none⟩), z10, .pointer (some ⟨p11, 0, none⟩), z12, .int .i64 (kk : Int), .pointer (some ⟨tb, 0, none⟩), z15, z16, z17, z18, z19, z20, z21, z22, z23, z24, z25, z26, u27, u28, .slice base n cap, u30, u31, u32, z33, z34, z35, z36, z37, z38, z39, z40, z41], defers := [] } w' → wpOpIn (W0.inRound lp) (3 - 1 - 1) Try.prog ops' Q 2 K { tmps := #[z0, z1, z2, z3, .pointer (some ⟨a, 0, none⟩), z5, z6, z7, .pointer (some ⟨p8, 0, none⟩), .pointer (some ⟨p9, 0, none⟩), z10, .pointer (some ⟨p11, 0, none⟩), z12, .int .i64 (kk : Int), .pointer (some ⟨tb, 0, none⟩), z15, z16, z17, z18, z19, z20, z21, z22, z23, z24, z25, z26, u27, u28, u29, u30, u31, u32, z33, z34, z35, z36, z37, z38, z39, z40, z41], defers := [] } w' := by
    intro K w' u27 u28 u29 u30 u31 u32 hb hK
    have hx : w'.cell? ⟨a, 0, none⟩ = some (.slice base n cap) := (hb.cell (p := ⟨a, 0, none⟩) b4.lt).trans b4.cell
    rw [hops]
    unfold wpOpIn
    simp only [Region.wanted, List.getElem?_toArray, List.getElem?_cons_zero, List.getElem?_cons_succ, if_true]
    unfold Oper.wpIn
    go_simp
    try exact hK
  have st3 : ∀ (K : Act → World → Prop) (w' : World) (u27 u28 u29 u30 u31 u32 : Value), Below w2.heap.size w2 w' → K { tmps := #[z0, z1, z2, z3, .pointer (some ⟨a, 0, none⟩), z5, z6, z7, .pointer (some ⟨p8, 0, none⟩), .pointer (some ⟨p9, 0, none⟩), z10, .pointer (some ⟨p11, 0, none⟩), z12, .int .i64 (kk : Int), .pointer (some ⟨tb, 0, none⟩), z15, z16, z17, z18, z19, z20, z21, z22, z23, z24, z25, z26, u27, u28, u29, .int .i64 (kk : Int), u31, u32, z33, z34, z35, z36, z37, z38, z39, z40, z41], defers := [] } w' → wpOpIn (W0.inRound lp) (3 - 1 - 1) Try.prog ops' Q 3 K { tmps := #[z0, z1, z2, z3, .pointer (some ⟨a, 0, none⟩), z5, z6, z7, .pointer (some ⟨p8, 0, none⟩), .pointer (some ⟨p9, 0, none⟩), z10, .pointer (some ⟨p11, 0, none⟩), z12, .int .i64 (kk : Int), .pointer (some ⟨tb, 0, none⟩), z15, z16, z17, z18, z19, z20, z21, z22, z23, z24, z25, z26, u27, u28, u29, u30, u31, u32, z33, z34, z35, z36, z37, z38, z39, z40, z41], defers := [] } w' := by
    intro K w' u27 u28 u29 u30 u31 u32 hb hK
    rw [hops]
    unfold wpOpIn
    simp only [Region.wanted, List.getElem?_toArray, List.getElem?_cons_zero, List.getElem?_cons_succ, if_true]
    unfold Oper.wpIn
    go_simp
    try exact hK
  have st4 : ∀ (K : Act → World → Prop) (w' : World) (u27 u28 u29 u30 u31 u32 : Value), Below w2.heap.size w2 w' → K { tmps := #[z0, z1, z2, z3, .pointer (some ⟨a, 0, none⟩), z5, z6, z7, .pointer (some ⟨p8, 0, none⟩), .pointer (some ⟨p9, 0, none⟩), z10, .pointer (some ⟨p11, 0, none⟩), z12, .int .i64 (kk : Int), .pointer (some ⟨tb, 0, none⟩), z15, z16, z17, z18, z19, z20, z21, z22, z23, z24, z25, z26, u27, u28, .slice base n cap, .int .i64 (kk : Int), .slice base kk cap, u32, z33, z34, z35, z36, z37, z38, z39, z40, z41], defers := [] } w' → wpOpIn (W0.inRound lp) (3 - 1 - 1) Try.prog ops' Q 4 K { tmps := #[z0, z1, z2, z3, .pointer (some ⟨a, 0, none⟩), z5, z6, z7, .pointer (some ⟨p8, 0, none⟩), .pointer (some ⟨p9, 0, none⟩), z10, .pointer (some ⟨p11, 0, none⟩), z12, .int .i64 (kk : Int), .pointer (some ⟨tb, 0, none⟩), z15, z16, z17, z18, z19, z20, z21, z22, z23, z24, z25, z26, u27, u28, .slice base n cap, .int .i64 (kk : Int), u31, u32, z33, z34, z35, z36, z37, z38, z39, z40, z41], defers := [] } w' := by
    intro K w' u27 u28 u29 u30 u31 u32 hb hK
    rw [hops]
    unfold wpOpIn
    simp only [Region.wanted, List.getElem?_toArray, List.getElem?_cons_zero, List.getElem?_cons_succ, if_true]
    unfold Oper.wpIn
    go_simp
    rw [if_pos (show kk ≤ cap by omega)]
    try exact hK
  have st5 : ∀ (K : Act → World → Prop) (w' : World) (u27 u28 u29 u30 u31 u32 : Value), Below w2.heap.size w2 w' → (∀ xx cc w', Below w2.heap.size w2 w' → w'.ownsRow w2.heap.size 68 2 (.slice xx kk cc) kk (restV (l.take kk)) → K { tmps := #[z0, z1, z2, z3, .pointer (some ⟨a, 0, none⟩), z5, z6, z7, .pointer (some ⟨p8, 0, none⟩), .pointer (some ⟨p9, 0, none⟩), z10, .pointer (some ⟨p11, 0, none⟩), z12, .int .i64 (kk : Int), .pointer (some ⟨tb, 0, none⟩), z15, z16, z17, z18, z19, z20, z21, z22, z23, z24, z25, z26, u27, u28, u29, u30, .slice base kk cap, .slice xx kk cc, z33, z34, z35, z36, z37, z38, z39, z40, z41], defers := [] } w') → wpOpIn (W0.inRound lp) (3 - 1 - 1) Try.prog ops' Q 5 K { tmps := #[z0, z1, z2, z3, .pointer (some ⟨a, 0, none⟩), z5, z6, z7, .pointer (some ⟨p8, 0, none⟩), .pointer (some ⟨p9, 0, none⟩), z10, .pointer (some ⟨p11, 0, none⟩), z12, .int .i64 (kk : Int), .pointer (some ⟨tb, 0, none⟩), z15, z16, z17, z18, z19, z20, z21, z22, z23, z24, z25, z26, u27, u28, u29, u30, .slice base kk cap, u32, z33, z34, z35, z36, z37, z38, z39, z40, z41], defers := [] } w' := by
    intro K w' u27 u28 u29 u30 u31 u32 hb hK
    rw [hops]
    unfold wpOpIn
    simp only [Region.wanted, List.getElem?_toArray, List.getElem?_cons_zero, List.getElem?_cons_succ, if_true]
    unfold Oper.wpIn
    go_simp
    refine ⟨wide_fn _, CallsIn.mono (hcall w' hb) ?_⟩
    rintro e w4 ⟨x, c, rfl, hr, hb2⟩
    exact hK x c w4 (hb.trans (hb2.mono hb.size)) hr
  have st6 : ∀ (K : Act → World → Prop) (w' : World) (xx : Option Addr) (cc : Nat), Below w2.heap.size w2 w' → K { tmps := #[z0, z1, z2, z3, .pointer (some ⟨a, 0, none⟩), z5, z6, z7, .pointer (some ⟨p8, 0, none⟩), .pointer (some ⟨p9, 0, none⟩), z10, .pointer (some ⟨p11, 0, none⟩), z12, .int .i64 (kk : Int), .pointer (some ⟨tb, 0, none⟩), z15, z16, z17, z18, z19, z20, z21, z22, z23, z24, z25, z26, .pointer (some ⟨tb, 0, none⟩), .int .i64 q1, .slice base n cap, .int .i64 (kk : Int), .slice base kk cap, .slice xx kk cc, z33, z34, z35, z36, z37, z38, z39, z40, z41], defers := [] } (w'.setCell ⟨p8, 0, none⟩ (.int .i64 q1)) → wpOpIn (W0.inRound lp) (3 - 1 - 1) Try.prog ops' Q 6 K { tmps := #[z0, z1, z2, z3, .pointer (some ⟨a, 0, none⟩), z5, z6, z7, .pointer (some ⟨p8, 0, none⟩), .pointer (some ⟨p9, 0, none⟩), z10, .pointer (some ⟨p11, 0, none⟩), z12, .int .i64 (kk : Int), .pointer (some ⟨tb, 0, none⟩), z15, z16, z17, z18, z19, z20, z21, z22, z23, z24, z25, z26, .pointer (some ⟨tb, 0, none⟩), .int .i64 q1, .slice base n cap, .int .i64 (kk : Int), .slice base kk cap, .slice xx kk cc, z33, z34, z35, z36, z37, z38, z39, z40, z41], defers := [] } w' := by
    intro K w' xx cc hb hK
    have B := (hb.block _ b8.lt).trans b8
    have B : Boxed w' p8 3 v8 := B
    have B1 := B.cell
    have B2 := B.frozen
    rw [hops]
    unfold wpOpIn
    simp only [Region.wanted, List.getElem?_toArray, List.getElem?_cons_zero, List.getElem?_cons_succ, if_true]
    unfold Oper.wpIn
    go_simp
    try exact hK
  have st7 : ∀ (K : Act → World → Prop) (w' : World) (xx : Option Addr) (cc : Nat), Below w2.heap.size w2 w' → K { tmps := #[z0, z1, z2, z3, .pointer (some ⟨a, 0, none⟩), z5, z6, z7, .pointer (some ⟨p8, 0, none⟩), .pointer (some ⟨p9, 0, none⟩), z10, .pointer (some ⟨p11, 0, none⟩), z12, .int .i64 (kk : Int), .pointer (some ⟨tb, 0, none⟩), z15, z16, z17, z18, z19, z20, z21, z22, z23, z24, z25, z26, .pointer (some ⟨tb, 0, none⟩), .int .i64 q1, .slice base n cap, .int .i64 (kk : Int), .slice base kk cap, .slice xx kk cc, z33, z34, z35, z36, z37, z38, z39, z40, z41], defers := [] } ((w'.setCell ⟨p8, 0, none⟩ (.int .i64 q1)).setCell ⟨p9, 0, none⟩ (.slice xx kk cc)) → wpOpIn (W0.inRound lp) (3 - 1 - 1) Try.prog ops' Q 7 K { tmps := #[z0, z1, z2, z3, .pointer (some ⟨a, 0, none⟩), z5, z6, z7, .pointer (some ⟨p8, 0, none⟩), .pointer (some ⟨p9, 0, none⟩), z10, .pointer (some ⟨p11, 0, none⟩), z12, .int .i64 (kk : Int), .pointer (some ⟨tb, 0, none⟩), z15, z16, z17, z18, z19, z20, z21, z22, z23, z24, z25, z26, .pointer (some ⟨tb, 0, none⟩), .int .i64 q1, .slice base n cap, .int .i64 (kk : Int), .slice base kk cap, .slice xx kk cc, z33, z34, z35, z36, z37, z38, z39, z40, z41], defers := [] } (w'.setCell ⟨p8, 0, none⟩ (.int .i64 q1)) := by
    intro K w' xx cc hb hK
    have B : Boxed w' p9 24 v9 := (hb.block _ b9.lt).trans b9
    have B := B.other h89.symm (.int .i64 q1)
    have B1 := B.cell
    have B2 := B.frozen
    rw [hops]
    unfold wpOpIn
    simp only [Region.wanted, List.getElem?_toArray, List.getElem?_cons_zero, List.getElem?_cons_succ, if_true]
    unfold Oper.wpIn
    go_simp
    try exact hK
  have st8 : ∀ (K : Act → World → Prop) (w' : World) (xx : Option Addr) (cc : Nat), Below w2.heap.size w2 w' → K { tmps := #[z0, z1, z2, z3, .pointer (some ⟨a, 0, none⟩), z5, z6, z7, .pointer (some ⟨p8, 0, none⟩), .pointer (some ⟨p9, 0, none⟩), z10, .pointer (some ⟨p11, 0, none⟩), z12, .int .i64 (kk : Int), .pointer (some ⟨tb, 0, none⟩), z15, z16, z17, z18, z19, z20, z21, z22, z23, z24, z25, z26, .pointer (some ⟨tb, 0, none⟩), .int .i64 q1, .slice base n cap, .int .i64 (kk : Int), .slice base kk cap, .slice xx kk cc, z33, z34, z35, z36, z37, z38, z39, z40, z41], defers := [] } (((w'.setCell ⟨p8, 0, none⟩ (.int .i64 q1)).setCell ⟨p9, 0, none⟩ (.slice xx kk cc)).setCell ⟨p11, 0, none⟩ (.bool true)) → wpOpIn (W0.inRound lp) (3 - 1 - 1) Try.prog ops' Q 8 K { tmps := #[z0, z1, z2, z3, .pointer (some ⟨a, 0, none⟩), z5, z6, z7, .pointer (some ⟨p8, 0, none⟩), .pointer (some ⟨p9, 0, none⟩), z10, .pointer (some ⟨p11, 0, none⟩), z12, .int .i64 (kk : Int), .pointer (some ⟨tb, 0, none⟩), z15, z16, z17, z18, z19, z20, z21, z22, z23, z24, z25, z26, .pointer (some ⟨tb, 0, none⟩), .int .i64 q1, .slice base n cap, .int .i64 (kk : Int), .slice base kk cap, .slice xx kk cc, z33, z34, z35, z36, z37, z38, z39, z40, z41], defers := [] } ((w'.setCell ⟨p8, 0, none⟩ (.int .i64 q1)).setCell ⟨p9, 0, none⟩ (.slice xx kk cc)) := by
    intro K w' xx cc hb hK
    have B : Boxed w' p11 4 v11 := (hb.block _ b11.lt).trans b11
    have B := (B.other h811.symm (.int .i64 q1)).other h911.symm (.slice xx kk cc)
    have B1 := B.cell
    have B2 := B.frozen
    rw [hops]
    unfold wpOpIn
    simp only [Region.wanted, List.getElem?_toArray, List.getElem?_cons_zero, List.getElem?_cons_succ, if_true]
    unfold Oper.wpIn
    go_simp
    try exact hK
  have t9 : ∀ (w' : World) (xx : Option Addr) (cc : Nat), Below w2.heap.size w2 w' → w'.ownsRow w2.heap.size 68 2 (.slice xx kk cc) kk (restV (l.take kk)) → wpAnyIn (W0.inRound lp) (3 - 1 - 1) Try.prog .any ops' Q 0 #[true, true, true, true, true, true, true, true, true] { tmps := #[z0, z1, z2, z3, .pointer (some ⟨a, 0, none⟩), z5, z6, z7, .pointer (some ⟨p8, 0, none⟩), .pointer (some ⟨p9, 0, none⟩), z10, .pointer (some ⟨p11, 0, none⟩), z12, .int .i64 (kk : Int), .pointer (some ⟨tb, 0, none⟩), z15, z16, z17, z18, z19, z20, z21, z22, z23, z24, z25, z26, .pointer (some ⟨tb, 0, none⟩), .int .i64 q1, .slice base n cap, .int .i64 (kk : Int), .slice base kk cap, .slice xx kk cc, z33, z34, z35, z36, z37, z38, z39, z40, z41], defers := [] } (((w'.setCell ⟨p8, 0, none⟩ (.int .i64 q1)).setCell ⟨p9, 0, none⟩ (.slice xx kk cc)).setCell ⟨p11, 0, none⟩ (.bool true)) := fun w' xx cc hb hr => ⟨by rw [hops]; kernel_rfl, hQ xx cc w' hb hr⟩
  have t8 : ∀ (w' : World) (xx : Option Addr) (cc : Nat), Below w2.heap.size w2 w' → w'.ownsRow w2.heap.size 68 2 (.slice xx kk cc) kk (restV (l.take kk)) → wpAnyIn (W0.inRound lp) (3 - 1 - 1) Try.prog .any ops' Q 1 #[true, true, true, true, true, true, true, true, false] { tmps := #[z0, z1, z2, z3, .pointer (some ⟨a, 0, none⟩), z5, z6, z7, .pointer (some ⟨p8, 0, none⟩), .pointer (some ⟨p9, 0, none⟩), z10, .pointer (some ⟨p11, 0, none⟩), z12, .int .i64 (kk : Int), .pointer (some ⟨tb, 0, none⟩), z15, z16, z17, z18, z19, z20, z21, z22, z23, z24, z25, z26, .pointer (some ⟨tb, 0, none⟩), .int .i64 q1, .slice base n cap, .int .i64 (kk : Int), .slice base kk cap, .slice xx kk cc, z33, z34, z35, z36, z37, z38, z39, z40, z41], defers := [] } ((w'.setCell ⟨p8, 0, none⟩ (.int .i64 q1)).setCell ⟨p9, 0, none⟩ (.slice xx kk cc)) := by
    intro w' xx cc hb hrw
    have hr : Region.ready .any ops' #[true, true, true, true, true, true, true, true, false] = [8] := by rw [hops]; kernel_rfl
    refine ⟨fun h => absurd (hr.symm.trans h) (by simp), ?_⟩
    rw [hr]
    intro i hi
    obtain rfl := List.mem_singleton.1 hi
    exact st8 _ w' xx cc hb (t9 w' xx cc hb hrw)
  have t7 : ∀ (w' : World) (xx : Option Addr) (cc : Nat), Below w2.heap.size w2 w' → w'.ownsRow w2.heap.size 68 2 (.slice xx kk cc) kk (restV (l.take kk)) → wpAnyIn (W0.inRound lp) (3 - 1 - 1) Try.prog .any ops' Q 2 #[true, true, true, true, true, true, true, false, false] { tmps := #[z0, z1, z2, z3, .pointer (some ⟨a, 0, none⟩), z5, z6, z7, .pointer (some ⟨p8, 0, none⟩), .pointer (some ⟨p9, 0, none⟩), z10, .pointer (some ⟨p11, 0, none⟩), z12, .int .i64 (kk : Int), .pointer (some ⟨tb, 0, none⟩), z15, z16, z17, z18, z19, z20, z21, z22, z23, z24, z25, z26, .pointer (some ⟨tb, 0, none⟩), .int .i64 q1, .slice base n cap, .int .i64 (kk : Int), .slice base kk cap, .slice xx kk cc, z33, z34, z35, z36, z37, z38, z39, z40, z41], defers := [] } (w'.setCell ⟨p8, 0, none⟩ (.int .i64 q1)) := by
    intro w' xx cc hb hrw
    have hr : Region.ready .any ops' #[true, true, true, true, true, true, true, false, false] = [7] := by rw [hops]; kernel_rfl
    refine ⟨fun h => absurd (hr.symm.trans h) (by simp), ?_⟩
    rw [hr]
    intro i hi
    obtain rfl := List.mem_singleton.1 hi
    exact st7 _ w' xx cc hb (t8 w' xx cc hb hrw)
  have t6 : ∀ (w' : World) (xx : Option Addr) (cc : Nat), Below w2.heap.size w2 w' → w'.ownsRow w2.heap.size 68 2 (.slice xx kk cc) kk (restV (l.take kk)) → wpAnyIn (W0.inRound lp) (3 - 1 - 1) Try.prog .any ops' Q 3 #[true, true, true, true, true, true, false, false, false] { tmps := #[z0, z1, z2, z3, .pointer (some ⟨a, 0, none⟩), z5, z6, z7, .pointer (some ⟨p8, 0, none⟩), .pointer (some ⟨p9, 0, none⟩), z10, .pointer (some ⟨p11, 0, none⟩), z12, .int .i64 (kk : Int), .pointer (some ⟨tb, 0, none⟩), z15, z16, z17, z18, z19, z20, z21, z22, z23, z24, z25, z26, .pointer (some ⟨tb, 0, none⟩), .int .i64 q1, .slice base n cap, .int .i64 (kk : Int), .slice base kk cap, .slice xx kk cc, z33, z34, z35, z36, z37, z38, z39, z40, z41], defers := [] } w' := by
    intro w' xx cc hb hrw
    have hr : Region.ready .any ops' #[true, true, true, true, true, true, false, false, false] = [6] := by rw [hops]; kernel_rfl
    refine ⟨fun h => absurd (hr.symm.trans h) (by simp), ?_⟩
    rw [hr]
    intro i hi
    obtain rfl := List.mem_singleton.1 hi
    exact st6 _ w' xx cc hb (t7 w' xx cc hb hrw)
  have s101111 : ∀ (w' : World) (xx : Option Addr) (cc : Nat), Below w2.heap.size w2 w' → w'.ownsRow w2.heap.size 68 2 (.slice xx kk cc) kk (restV (l.take kk)) → wpAnyIn (W0.inRound lp) (3 - 1 - 1) Try.prog .any ops' Q 4 #[true, false, true, true, true, true, false, false, false] { tmps := #[z0, z1, z2, z3, .pointer (some ⟨a, 0, none⟩), z5, z6, z7, .pointer (some ⟨p8, 0, none⟩), .pointer (some ⟨p9, 0, none⟩), z10, .pointer (some ⟨p11, 0, none⟩), z12, .int .i64 (kk : Int), .pointer (some ⟨tb, 0, none⟩), z15, z16, z17, z18, z19, z20, z21, z22, z23, z24, z25, z26, .pointer (some ⟨tb, 0, none⟩), undef, .slice base n cap, .int .i64 (kk : Int), .slice base kk cap, .slice xx kk cc, z33, z34, z35, z36, z37, z38, z39, z40, z41], defers := [] } w' := by
    intro w' xx cc hb hrw
    have hr : Region.ready .any ops' #[true, false, true, true, true, true, false, false, false] = [1] := by rw [hops]; kernel_rfl
    refine ⟨fun h => absurd (hr.symm.trans h) (by simp), ?_⟩
    rw [hr]
    intro i hi
    obtain rfl := List.mem_singleton.1 hi
    exact st1 _ w' (.pointer (some ⟨tb, 0, none⟩)) (undef) (.slice base n cap) (.int .i64 (kk : Int)) (.slice base kk cap) (.slice xx kk cc) hb (t6 w' xx cc hb hrw)
  have s111110 : ∀ (w' : World), Below w2.heap.size w2 w' → wpAnyIn (W0.inRound lp) (3 - 1 - 1) Try.prog .any ops' Q 4 #[true, true, true, true, true, false, false, false, false] { tmps := #[z0, z1, z2, z3, .pointer (some ⟨a, 0, none⟩), z5, z6, z7, .pointer (some ⟨p8, 0, none⟩), .pointer (some ⟨p9, 0, none⟩), z10, .pointer (some ⟨p11, 0, none⟩), z12, .int .i64 (kk : Int), .pointer (some ⟨tb, 0, none⟩), z15, z16, z17, z18, z19, z20, z21, z22, z23, z24, z25, z26, .pointer (some ⟨tb, 0, none⟩), .int .i64 q1, .slice base n cap, .int .i64 (kk : Int), .slice base kk cap, undef, z33, z34, z35, z36, z37, z38, z39, z40, z41], defers := [] } w' := by
    intro w' hb
    have hr : Region.ready .any ops' #[true, true, true, true, true, false, false, false, false] = [5] := by rw [hops]; kernel_rfl
    refine ⟨fun h => absurd (hr.symm.trans h) (by simp), ?_⟩
    rw [hr]
    intro i hi
    obtain rfl := List.mem_singleton.1 hi
    exact st5 _ w' (.pointer (some ⟨tb, 0, none⟩)) (.int .i64 q1) (.slice base n cap) (.int .i64 (kk : Int)) (.slice base kk cap) (undef) hb (fun xx cc w' hb hrw => t6 w' xx cc hb hrw)
  have s001111 : ∀ (w' : World) (xx : Option Addr) (cc : Nat), Below w2.heap.size w2 w' → w'.ownsRow w2.heap.size 68 2 (.slice xx kk cc) kk (restV (l.take kk)) → wpAnyIn (W0.inRound lp) (3 - 1 - 1) Try.prog .any ops' Q 5 #[false, false, true, true, true, true, false, false, false] { tmps := #[z0, z1, z2, z3, .pointer (some ⟨a, 0, none⟩), z5, z6, z7, .pointer (some ⟨p8, 0, none⟩), .pointer (some ⟨p9, 0, none⟩), z10, .pointer (some ⟨p11, 0, none⟩), z12, .int .i64 (kk : Int), .pointer (some ⟨tb, 0, none⟩), z15, z16, z17, z18, z19, z20, z21, z22, z23, z24, z25, z26, undef, undef, .slice base n cap, .int .i64 (kk : Int), .slice base kk cap, .slice xx kk cc, z33, z34, z35, z36, z37, z38, z39, z40, z41], defers := [] } w' := by
    intro w' xx cc hb hrw
    have hr : Region.ready .any ops' #[false, false, true, true, true, true, false, false, false] = [0] := by rw [hops]; kernel_rfl
    refine ⟨fun h => absurd (hr.symm.trans h) (by simp), ?_⟩
    rw [hr]
    intro i hi
    obtain rfl := List.mem_singleton.1 hi
    exact st0 _ w' (undef) (undef) (.slice base n cap) (.int .i64 (kk : Int)) (.slice base kk cap) (.slice xx kk cc) hb (s101111 w' xx cc hb hrw)
  have s101110 : ∀ (w' : World), Below w2.heap.size w2 w' → wpAnyIn (W0.inRound lp) (3 - 1 - 1) Try.prog .any ops' Q 5 #[true, false, true, true, true, false, false, false, false] { tmps := #[z0, z1, z2, z3, .pointer (some ⟨a, 0, none⟩), z5, z6, z7, .pointer (some ⟨p8, 0, none⟩), .pointer (some ⟨p9, 0, none⟩), z10, .pointer (some ⟨p11, 0, none⟩), z12, .int .i64 (kk : Int), .pointer (some ⟨tb, 0, none⟩), z15, z16, z17, z18, z19, z20, z21, z22, z23, z24, z25, z26, .pointer (some ⟨tb, 0, none⟩), undef, .slice base n cap, .int .i64 (kk : Int), .slice base kk cap, undef, z33, z34, z35, z36, z37, z38, z39, z40, z41], defers := [] } w' := by
    intro w' hb
    have hr : Region.ready .any ops' #[true, false, true, true, true, false, false, false, false] = [1, 5] := by rw [hops]; kernel_rfl
    refine ⟨fun h => absurd (hr.symm.trans h) (by simp), ?_⟩
    rw [hr]
    intro i hi
    simp only [List.mem_cons, List.not_mem_nil, or_false] at hi
    rcases hi with rfl | rfl
    · exact st1 _ w' (.pointer (some ⟨tb, 0, none⟩)) (undef) (.slice base n cap) (.int .i64 (kk : Int)) (.slice base kk cap) (undef) hb (s111110 w' hb)
    · exact st5 _ w' (.pointer (some ⟨tb, 0, none⟩)) (undef) (.slice base n cap) (.int .i64 (kk : Int)) (.slice base kk cap) (undef) hb (fun xx cc w' hb hrw => s101111 w' xx cc hb hrw)
  have s111100 : ∀ (w' : World), Below w2.heap.size w2 w' → wpAnyIn (W0.inRound lp) (3 - 1 - 1) Try.prog .any ops' Q 5 #[true, true, true, true, false, false, false, false, false] { tmps := #[z0, z1, z2, z3, .pointer (some ⟨a, 0, none⟩), z5, z6, z7, .pointer (some ⟨p8, 0, none⟩), .pointer (some ⟨p9, 0, none⟩), z10, .pointer (some ⟨p11, 0, none⟩), z12, .int .i64 (kk : Int), .pointer (some ⟨tb, 0, none⟩), z15, z16, z17, z18, z19, z20, z21, z22, z23, z24, z25, z26, .pointer (some ⟨tb, 0, none⟩), .int .i64 q1, .slice base n cap, .int .i64 (kk : Int), undef, undef, z33, z34, z35, z36, z37, z38, z39, z40, z41], defers := [] } w' := by
    intro w' hb
    have hr : Region.ready .any ops' #[true, true, true, true, false, false, false, false, false] = [4] := by rw [hops]; kernel_rfl
    refine ⟨fun h => absurd (hr.symm.trans h) (by simp), ?_⟩
    rw [hr]
    intro i hi
    obtain rfl := List.mem_singleton.1 hi
    exact st4 _ w' (.pointer (some ⟨tb, 0, none⟩)) (.int .i64 q1) (.slice base n cap) (.int .i64 (kk : Int)) (undef) (undef) hb (s111110 w' hb)
  have s001110 : ∀ (w' : World), Below w2.heap.size w2 w' → wpAnyIn (W0.inRound lp) (3 - 1 - 1) Try.prog .any ops' Q 6 #[false, false, true, true, true, false, false, false, false] { tmps := #[z0, z1, z2, z3, .pointer (some ⟨a, 0, none⟩), z5, z6, z7, .pointer (some ⟨p8, 0, none⟩), .pointer (some ⟨p9, 0, none⟩), z10, .pointer (some ⟨p11, 0, none⟩), z12, .int .i64 (kk : Int), .pointer (some ⟨tb, 0, none⟩), z15, z16, z17, z18, z19, z20, z21, z22, z23, z24, z25, z26, undef, undef, .slice base n cap, .int .i64 (kk : Int), .slice base kk cap, undef, z33, z34, z35, z36, z37, z38, z39, z40, z41], defers := [] } w' := by
    intro w' hb
    have hr : Region.ready .any ops' #[false, false, true, true, true, false, false, false, false] = [0, 5] := by rw [hops]; kernel_rfl
    refine ⟨fun h => absurd (hr.symm.trans h) (by simp), ?_⟩
    rw [hr]
    intro i hi
    simp only [List.mem_cons, List.not_mem_nil, or_false] at hi
    rcases hi with rfl | rfl
    · exact st0 _ w' (undef) (undef) (.slice base n cap) (.int .i64 (kk : Int)) (.slice base kk cap) (undef) hb (s101110 w' hb)
    · exact st5 _ w' (undef) (undef) (.slice base n cap) (.int .i64 (kk : Int)) (.slice base kk cap) (undef) hb (fun xx cc w' hb hrw => s001111 w' xx cc hb hrw)
  have s101100 : ∀ (w' : World), Below w2.heap.size w2 w' → wpAnyIn (W0.inRound lp) (3 - 1 - 1) Try.prog .any ops' Q 6 #[true, false, true, true, false, false, false, false, false] { tmps := #[z0, z1, z2, z3, .pointer (some ⟨a, 0, none⟩), z5, z6, z7, .pointer (some ⟨p8, 0, none⟩), .pointer (some ⟨p9, 0, none⟩), z10, .pointer (some ⟨p11, 0, none⟩), z12, .int .i64 (kk : Int), .pointer (some ⟨tb, 0, none⟩), z15, z16, z17, z18, z19, z20, z21, z22, z23, z24, z25, z26, .pointer (some ⟨tb, 0, none⟩), undef, .slice base n cap, .int .i64 (kk : Int), undef, undef, z33, z34, z35, z36, z37, z38, z39, z40, z41], defers := [] } w' := by
    intro w' hb
    have hr : Region.ready .any ops' #[true, false, true, true, false, false, false, false, false] = [1, 4] := by rw [hops]; kernel_rfl
    refine ⟨fun h => absurd (hr.symm.trans h) (by simp), ?_⟩
    rw [hr]
    intro i hi
    simp only [List.mem_cons, List.not_mem_nil, or_false] at hi
    rcases hi with rfl | rfl
    · exact st1 _ w' (.pointer (some ⟨tb, 0, none⟩)) (undef) (.slice base n cap) (.int .i64 (kk : Int)) (undef) (undef) hb (s111100 w' hb)
    · exact st4 _ w' (.pointer (some ⟨tb, 0, none⟩)) (undef) (.slice base n cap) (.int .i64 (kk : Int)) (undef) (undef) hb (s101110 w' hb)
  have s110100 : ∀ (w' : World), Below w2.heap.size w2 w' → wpAnyIn (W0.inRound lp) (3 - 1 - 1) Try.prog .any ops' Q 6 #[true, true, false, true, false, false, false, false, false] { tmps := #[z0, z1, z2, z3, .pointer (some ⟨a, 0, none⟩), z5, z6, z7, .pointer (some ⟨p8, 0, none⟩), .pointer (some ⟨p9, 0, none⟩), z10, .pointer (some ⟨p11, 0, none⟩), z12, .int .i64 (kk : Int), .pointer (some ⟨tb, 0, none⟩), z15, z16, z17, z18, z19, z20, z21, z22, z23, z24, z25, z26, .pointer (some ⟨tb, 0, none⟩), .int .i64 q1, undef, .int .i64 (kk : Int), undef, undef, z33, z34, z35, z36, z37, z38, z39, z40, z41], defers := [] } w' := by
    intro w' hb
    have hr : Region.ready .any ops' #[true, true, false, true, false, false, false, false, false] = [2] := by rw [hops]; kernel_rfl
    refine ⟨fun h => absurd (hr.symm.trans h) (by simp), ?_⟩
    rw [hr]
    intro i hi
    obtain rfl := List.mem_singleton.1 hi
    exact st2 _ w' (.pointer (some ⟨tb, 0, none⟩)) (.int .i64 q1) (undef) (.int .i64 (kk : Int)) (undef) (undef) hb (s111100 w' hb)
  have s111000 : ∀ (w' : World), Below w2.heap.size w2 w' → wpAnyIn (W0.inRound lp) (3 - 1 - 1) Try.prog .any ops' Q 6 #[true, true, true, false, false, false, false, false, false] { tmps := #[z0, z1, z2, z3, .pointer (some ⟨a, 0, none⟩), z5, z6, z7, .pointer (some ⟨p8, 0, none⟩), .pointer (some ⟨p9, 0, none⟩), z10, .pointer (some ⟨p11, 0, none⟩), z12, .int .i64 (kk : Int), .pointer (some ⟨tb, 0, none⟩), z15, z16, z17, z18, z19, z20, z21, z22, z23, z24, z25, z26, .pointer (some ⟨tb, 0, none⟩), .int .i64 q1, .slice base n cap, undef, undef, undef, z33, z34, z35, z36, z37, z38, z39, z40, z41], defers := [] } w' := by
    intro w' hb
    have hr : Region.ready .any ops' #[true, true, true, false, false, false, false, false, false] = [3] := by rw [hops]; kernel_rfl
    refine ⟨fun h => absurd (hr.symm.trans h) (by simp), ?_⟩
    rw [hr]
    intro i hi
    obtain rfl := List.mem_singleton.1 hi
    exact st3 _ w' (.pointer (some ⟨tb, 0, none⟩)) (.int .i64 q1) (.slice base n cap) (undef) (undef) (undef) hb (s111100 w' hb)
  have s001100 : ∀ (w' : World), Below w2.heap.size w2 w' → wpAnyIn (W0.inRound lp) (3 - 1 - 1) Try.prog .any ops' Q 7 #[false, false, true, true, false, false, false, false, false] { tmps := #[z0, z1, z2, z3, .pointer (some ⟨a, 0, none⟩), z5, z6, z7, .pointer (some ⟨p8, 0, none⟩), .pointer (some ⟨p9, 0, none⟩), z10, .pointer (some ⟨p11, 0, none⟩), z12, .int .i64 (kk : Int), .pointer (some ⟨tb, 0, none⟩), z15, z16, z17, z18, z19, z20, z21, z22, z23, z24, z25, z26, undef, undef, .slice base n cap, .int .i64 (kk : Int), undef, undef, z33, z34, z35, z36, z37, z38, z39, z40, z41], defers := [] } w' := by
    intro w' hb
    have hr : Region.ready .any ops' #[false, false, true, true, false, false, false, false, false] = [0, 4] := by rw [hops]; kernel_rfl
    refine ⟨fun h => absurd (hr.symm.trans h) (by simp), ?_⟩
    rw [hr]
    intro i hi
    simp only [List.mem_cons, List.not_mem_nil, or_false] at hi
    rcases hi with rfl | rfl
    · exact st0 _ w' (undef) (undef) (.slice base n cap) (.int .i64 (kk : Int)) (undef) (undef) hb (s101100 w' hb)
    · exact st4 _ w' (undef) (undef) (.slice base n cap) (.int .i64 (kk : Int)) (undef) (undef) hb (s001110 w' hb)
  have s100100 : ∀ (w' : World), Below w2.heap.size w2 w' → wpAnyIn (W0.inRound lp) (3 - 1 - 1) Try.prog .any ops' Q 7 #[true, false, false, true, false, false, false, false, false] { tmps := #[z0, z1, z2, z3, .pointer (some ⟨a, 0, none⟩), z5, z6, z7, .pointer (some ⟨p8, 0, none⟩), .pointer (some ⟨p9, 0, none⟩), z10, .pointer (some ⟨p11, 0, none⟩), z12, .int .i64 (kk : Int), .pointer (some ⟨tb, 0, none⟩), z15, z16, z17, z18, z19, z20, z21, z22, z23, z24, z25, z26, .pointer (some ⟨tb, 0, none⟩), undef, undef, .int .i64 (kk : Int), undef, undef, z33, z34, z35, z36, z37, z38, z39, z40, z41], defers := [] } w' := by
    intro w' hb
    have hr : Region.ready .any ops' #[true, false, false, true, false, false, false, false, false] = [1, 2] := by rw [hops]; kernel_rfl
    refine ⟨fun h => absurd (hr.symm.trans h) (by simp), ?_⟩
    rw [hr]
    intro i hi
    simp only [List.mem_cons, List.not_mem_nil, or_false] at hi
    rcases hi with rfl | rfl
    · exact st1 _ w' (.pointer (some ⟨tb, 0, none⟩)) (undef) (undef) (.int .i64 (kk : Int)) (undef) (undef) hb (s110100 w' hb)
    · exact st2 _ w' (.pointer (some ⟨tb, 0, none⟩)) (undef) (undef) (.int .i64 (kk : Int)) (undef) (undef) hb (s101100 w' hb)
  have s101000 : ∀ (w' : World), Below w2.heap.size w2 w' → wpAnyIn (W0.inRound lp) (3 - 1 - 1) Try.prog .any ops' Q 7 #[true, false, true, false, false, false, false, false, false] { tmps := #[z0, z1, z2, z3, .pointer (some ⟨a, 0, none⟩), z5, z6, z7, .pointer (some ⟨p8, 0, none⟩), .pointer (some ⟨p9, 0, none⟩), z10, .pointer (some ⟨p11, 0, none⟩), z12, .int .i64 (kk : Int), .pointer (some ⟨tb, 0, none⟩), z15, z16, z17, z18, z19, z20, z21, z22, z23, z24, z25, z26, .pointer (some ⟨tb, 0, none⟩), undef, .slice base n cap, undef, undef, undef, z33, z34, z35, z36, z37, z38, z39, z40, z41], defers := [] } w' := by
    intro w' hb
    have hr : Region.ready .any ops' #[true, false, true, false, false, false, false, false, false] = [1, 3] := by rw [hops]; kernel_rfl
    refine ⟨fun h => absurd (hr.symm.trans h) (by simp), ?_⟩
    rw [hr]
    intro i hi
    simp only [List.mem_cons, List.not_mem_nil, or_false] at hi
    rcases hi with rfl | rfl
    · exact st1 _ w' (.pointer (some ⟨tb, 0, none⟩)) (undef) (.slice base n cap) (undef) (undef) (undef) hb (s111000 w' hb)
    · exact st3 _ w' (.pointer (some ⟨tb, 0, none⟩)) (undef) (.slice base n cap) (undef) (undef) (undef) hb (s101100 w' hb)
  have s110000 : ∀ (w' : World), Below w2.heap.size w2 w' → wpAnyIn (W0.inRound lp) (3 - 1 - 1) Try.prog .any ops' Q 7 #[true, true, false, false, false, false, false, false, false] { tmps := #[z0, z1, z2, z3, .pointer (some ⟨a, 0, none⟩), z5, z6, z7, .pointer (some ⟨p8, 0, none⟩), .pointer (some ⟨p9, 0, none⟩), z10, .pointer (some ⟨p11, 0, none⟩), z12, .int .i64 (kk : Int), .pointer (some ⟨tb, 0, none⟩), z15, z16, z17, z18, z19, z20, z21, z22, z23, z24, z25, z26, .pointer (some ⟨tb, 0, none⟩), .int .i64 q1, undef, undef, undef, undef, z33, z34, z35, z36, z37, z38, z39, z40, z41], defers := [] } w' := by
    intro w' hb
    have hr : Region.ready .any ops' #[true, true, false, false, false, false, false, false, false] = [2, 3] := by rw [hops]; kernel_rfl
    refine ⟨fun h => absurd (hr.symm.trans h) (by simp), ?_⟩
    rw [hr]
    intro i hi
    simp only [List.mem_cons, List.not_mem_nil, or_false] at hi
    rcases hi with rfl | rfl
    · exact st2 _ w' (.pointer (some ⟨tb, 0, none⟩)) (.int .i64 q1) (undef) (undef) (undef) (undef) hb (s111000 w' hb)
    · exact st3 _ w' (.pointer (some ⟨tb, 0, none⟩)) (.int .i64 q1) (undef) (undef) (undef) (undef) hb (s110100 w' hb)
  have s000100 : ∀ (w' : World), Below w2.heap.size w2 w' → wpAnyIn (W0.inRound lp) (3 - 1 - 1) Try.prog .any ops' Q 8 #[false, false, false, true, false, false, false, false, false] { tmps := #[z0, z1, z2, z3, .pointer (some ⟨a, 0, none⟩), z5, z6, z7, .pointer (some ⟨p8, 0, none⟩), .pointer (some ⟨p9, 0, none⟩), z10, .pointer (some ⟨p11, 0, none⟩), z12, .int .i64 (kk : Int), .pointer (some ⟨tb, 0, none⟩), z15, z16, z17, z18, z19, z20, z21, z22, z23, z24, z25, z26, undef, undef, undef, .int .i64 (kk : Int), undef, undef, z33, z34, z35, z36, z37, z38, z39, z40, z41], defers := [] } w' := by
    intro w' hb
    have hr : Region.ready .any ops' #[false, false, false, true, false, false, false, false, false] = [0, 2] := by rw [hops]; kernel_rfl
    refine ⟨fun h => absurd (hr.symm.trans h) (by simp), ?_⟩
    rw [hr]
    intro i hi
    simp only [List.mem_cons, List.not_mem_nil, or_false] at hi
    rcases hi with rfl | rfl
    · exact st0 _ w' (undef) (undef) (undef) (.int .i64 (kk : Int)) (undef) (undef) hb (s100100 w' hb)
    · exact st2 _ w' (undef) (undef) (undef) (.int .i64 (kk : Int)) (undef) (undef) hb (s001100 w' hb)
  have s001000 : ∀ (w' : World), Below w2.heap.size w2 w' → wpAnyIn (W0.inRound lp) (3 - 1 - 1) Try.prog .any ops' Q 8 #[false, false, true, false, false, false, false, false, false] { tmps := #[z0, z1, z2, z3, .pointer (some ⟨a, 0, none⟩), z5, z6, z7, .pointer (some ⟨p8, 0, none⟩), .pointer (some ⟨p9, 0, none⟩), z10, .pointer (some ⟨p11, 0, none⟩), z12, .int .i64 (kk : Int), .pointer (some ⟨tb, 0, none⟩), z15, z16, z17, z18, z19, z20, z21, z22, z23, z24, z25, z26, undef, undef, .slice base n cap, undef, undef, undef, z33, z34, z35, z36, z37, z38, z39, z40, z41], defers := [] } w' := by
    intro w' hb
    have hr : Region.ready .any ops' #[false, false, true, false, false, false, false, false, false] = [0, 3] := by rw [hops]; kernel_rfl
    refine ⟨fun h => absurd (hr.symm.trans h) (by simp), ?_⟩
    rw [hr]
    intro i hi
    simp only [List.mem_cons, List.not_mem_nil, or_false] at hi
    rcases hi with rfl | rfl
    · exact st0 _ w' (undef) (undef) (.slice base n cap) (undef) (undef) (undef) hb (s101000 w' hb)
    · exact st3 _ w' (undef) (undef) (.slice base n cap) (undef) (undef) (undef) hb (s001100 w' hb)
  have s100000 : ∀ (w' : World), Below w2.heap.size w2 w' → wpAnyIn (W0.inRound lp) (3 - 1 - 1) Try.prog .any ops' Q 8 #[true, false, false, false, false, false, false, false, false] { tmps := #[z0, z1, z2, z3, .pointer (some ⟨a, 0, none⟩), z5, z6, z7, .pointer (some ⟨p8, 0, none⟩), .pointer (some ⟨p9, 0, none⟩), z10, .pointer (some ⟨p11, 0, none⟩), z12, .int .i64 (kk : Int), .pointer (some ⟨tb, 0, none⟩), z15, z16, z17, z18, z19, z20, z21, z22, z23, z24, z25, z26, .pointer (some ⟨tb, 0, none⟩), undef, undef, undef, undef, undef, z33, z34, z35, z36, z37, z38, z39, z40, z41], defers := [] } w' := by
    intro w' hb
    have hr : Region.ready .any ops' #[true, false, false, false, false, false, false, false, false] = [1, 2, 3] := by rw [hops]; kernel_rfl
    refine ⟨fun h => absurd (hr.symm.trans h) (by simp), ?_⟩
    rw [hr]
    intro i hi
    simp only [List.mem_cons, List.not_mem_nil, or_false] at hi
    rcases hi with rfl | rfl | rfl
    · exact st1 _ w' (.pointer (some ⟨tb, 0, none⟩)) (undef) (undef) (undef) (undef) (undef) hb (s110000 w' hb)
    · exact st2 _ w' (.pointer (some ⟨tb, 0, none⟩)) (undef) (undef) (undef) (undef) (undef) hb (s101000 w' hb)
    · exact st3 _ w' (.pointer (some ⟨tb, 0, none⟩)) (undef) (undef) (undef) (undef) (undef) hb (s100100 w' hb)
  have s000000 : ∀ (w' : World), Below w2.heap.size w2 w' → wpAnyIn (W0.inRound lp) (3 - 1 - 1) Try.prog .any ops' Q 9 #[false, false, false, false, false, false, false, false, false] { tmps := #[z0, z1, z2, z3, .pointer (some ⟨a, 0, none⟩), z5, z6, z7, .pointer (some ⟨p8, 0, none⟩), .pointer (some ⟨p9, 0, none⟩), z10, .pointer (some ⟨p11, 0, none⟩), z12, .int .i64 (kk : Int), .pointer (some ⟨tb, 0, none⟩), z15, z16, z17, z18, z19, z20, z21, z22, z23, z24, z25, z26, undef, undef, undef, undef, undef, undef, z33, z34, z35, z36, z37, z38, z39, z40, z41], defers := [] } w' := by
    intro w' hb
    have hr : Region.ready .any ops' #[false, false, false, false, false, false, false, false, false] = [0, 2, 3] := by rw [hops]; kernel_rfl
    refine ⟨fun h => absurd (hr.symm.trans h) (by simp), ?_⟩
    rw [hr]
    intro i hi
    simp only [List.mem_cons, List.not_mem_nil, or_false] at hi
    rcases hi with rfl | rfl | rfl
    · exact st0 _ w' (undef) (undef) (undef) (undef) (undef) (undef) hb (s100000 w' hb)
    · exact st2 _ w' (undef) (undef) (undef) (undef) (undef) (undef) hb (s001000 w' hb)
    · exact st3 _ w' (undef) (undef) (undef) (undef) (undef) (undef) hb (s000100 w' hb)
  exact s000000 _ ⟨rfl, rfl, rfl, Nat.le_refl _, fun _ _ => rfl⟩
/-- what Top comes to -/
def TopQ (l : List Rs) (x y : Int) (dead : List Int) (sk : Int) (ok : Bool) (n9 : Nat) (outs : List (Fin l.length)) : Prop :=
  (ok = false ∧ sk = -1 ∧ n9 = 0 ∧ outs = dwn l.length l.length ∧ ∀ k ∈ outs, spent x y dead l[k] = true) ∨
  (∃ k : Fin l.length, ok = true ∧ sk = (l[k]).1 ∧ n9 = k.1 ∧ (∃ j, j < l.length ∧ outs ++ [k] = dwn l.length (j + 1)) ∧ (∀ z ∈ outs, spent x y dead l[z] = true) ∧ spent x y dead l[k] = false)
def TopE (a : Nat) (l : List Rs) (x y : Int) (dead : List Int) (w : World) (e : Ending) (W' : World) : Prop :=
  ∃ (sk : Int) (ok : Bool) (v9 v10 : Value) (n9 : Nat) (outs : List (Fin l.length)), e = .returned (.tuple #[.int .i64 sk, v9, v10, .bool ok]) ∧ W'.ownsRow a 3 1 v10 outs.length (outs.map (sockV l)) ∧ W'.ownsRow a 68 2 v9 n9 (restV (l.take n9)) ∧ Below a w W' ∧ TopQ l x y dead sk ok n9 outs
theorem ownsRow_form {w : World} {B : Nat} {e : TypeId} {size n : Nat} {v : Value} {xs : List Value} (h : w.ownsRow B e size v n xs) : ∃ x c, v = .slice x n c := by
  rcases h.2 with ⟨rfl, rfl⟩ | ⟨g, cap, cur, rfl, _⟩
  · exact ⟨_, _, rfl⟩
  · exact ⟨_, _, rfl⟩
set_option maxRecDepth 100000 in
set_option maxHeartbeats 4000000 in
theorem top_in (base : Option Addr) (cap : Nat) (l : List Rs) (hl : l.length ≤ 1000000) (x y : Int) (b : Option Addr) (m c : Nat) (dead : List Int) (w : World) (S : Nat → Prop) (hS : ∀ k, S k → k < w.heap.size) (hd : RdC Try.prog IL S w dead [.slice b m c]) (hR : RdC Try.prog (.sl RestT) S w l [.slice base l.length cap]) (hx : IntKind.wrap .i64 x = x) (hy : IntKind.wrap .i64 y = y) (hw : ∀ k : Fin l.length, IntKind.wrap .i64 (l[k]).1 = (l[k]).1 ∧ IntKind.wrap .i64 (l[k]).2.1 = (l[k]).2.1) (hI : Rests w.heap.size w base l) :
    CallsIn W0 3 Try.prog 59 #[.slice base l.length cap, .int .i64 x, .int .i64 y, .slice b m c] w fun e W' => TopE w.heap.size l x y dead w e W' := by
  have h1 : 1 ≤ 3 := by omega
  have hcap : l.length ≤ cap := by
    obtain ⟨base', cap', he, h1, _⟩ := hR
    injection he with he _
    injection he with _ _ h2
    rw [h2]; exact h1
  obtain ⟨i0, hi, hz0, hz1, hz2⟩ := info_parts info3
  have hmx : maxLen = 2 ^ 63 - 1 := rfl
  refine callsIn_of_wp_marks Try.func59 rfl (wide_fn _) ?_ wide_ro
  simp only [Try.ntmps59, List.size_toArray, List.length_cons, List.length_nil, Nat.reduceAdd, Nat.reduceSub, Array.replicate_succ, Array.replicate_zero, List.push_toArray, List.append_toArray, List.nil_append, List.cons_append]
  obtain ⟨a, ha⟩ : ∃ a, w.heap.size = a := ⟨_, rfl⟩
  rw [ha] at hI hS ⊢
  gi_wp2
  refine wpW_scope ?_
  have b4 := Boxed.new w 24 (.slice base l.length cap)
  have b8 := Boxed.new (w.alloc (.cells #[.slice base l.length cap] 24)) 3 (.int .i64 0)
  have b9 := Boxed.new ((w.alloc (.cells #[.slice base l.length cap] 24)).alloc (.cells #[.int .i64 0] 3)) 24 (.slice none 0 0)
  have b10 := Boxed.new (((w.alloc (.cells #[.slice base l.length cap] 24)).alloc (.cells #[.int .i64 0] 3)).alloc (.cells #[.slice none 0 0] 24)) 25 (.slice none 0 0)
  have b11 := Boxed.new ((((w.alloc (.cells #[.slice base l.length cap] 24)).alloc (.cells #[.int .i64 0] 3)).alloc (.cells #[.slice none 0 0] 24)).alloc (.cells #[.slice none 0 0] 25)) 4 (.bool false)
  have hB1 : Below a w (((((w.alloc (.cells #[.slice base l.length cap] 24)).alloc (.cells #[.int .i64 0] 3)).alloc (.cells #[.slice none 0 0] 24)).alloc (.cells #[.slice none 0 0] 25)).alloc (.cells #[.bool false] 4)) := (((((Below.refl _ w).alloc (by omega) _).alloc (by simp; omega) _).alloc (by simp; omega) _).alloc (by simp; omega) _).alloc (by simp; omega) _
  have hz : (((((w.alloc (.cells #[.slice base l.length cap] 24)).alloc (.cells #[.int .i64 0] 3)).alloc (.cells #[.slice none 0 0] 24)).alloc (.cells #[.slice none 0 0] 25)).alloc (.cells #[.bool false] 4)).heap.size = a + 1 + 1 + 1 + 1 + 1 := by simp [ha]
  simp only [World.size_alloc, ha] at b4 b8 b9 b10 b11
  replace b4 := (((b4.alloc (.cells #[.int .i64 0] 3)).alloc (.cells #[.slice none 0 0] 24)).alloc (.cells #[.slice none 0 0] 25)).alloc (.cells #[.bool false] 4)
  replace b8 := ((b8.alloc (.cells #[.slice none 0 0] 24)).alloc (.cells #[.slice none 0 0] 25)).alloc (.cells #[.bool false] 4)
  replace b9 := (b9.alloc (.cells #[.slice none 0 0] 25)).alloc (.cells #[.bool false] 4)
  replace b10 := b10.alloc (.cells #[.bool false] 4)
  generalize (((((w.alloc (.cells #[.slice base l.length cap] 24)).alloc (.cells #[.int .i64 0] 3)).alloc (.cells #[.slice none 0 0] 24)).alloc (.cells #[.slice none 0 0] 25)).alloc (.cells #[.bool false] 4)) = W1 at b4 b8 b9 b10 b11 hB1 hz ⊢
  obtain ⟨p8, h8⟩ : ∃ p, a + 1 = p := ⟨_, rfl⟩
  obtain ⟨p9, h9⟩ : ∃ p, p8 + 1 = p := ⟨_, rfl⟩
  obtain ⟨p10, h10⟩ : ∃ p, p9 + 1 = p := ⟨_, rfl⟩
  obtain ⟨p11, h11⟩ : ∃ p, p10 + 1 = p := ⟨_, rfl⟩
  obtain ⟨q, hq⟩ : ∃ p, p11 + 1 = p := ⟨_, rfl⟩
  simp only [h8, h9, h10, h11, hq] at b8 b9 b10 b11 hz ⊢
  refine wpIn_seq (wpIn_mono (Q := fun e a' W => e = .normal ∧ a' = { tmps := #[.slice base l.length cap, .int .i64 x, .int .i64 y, .slice b m c, .pointer (some ⟨a, 0, none⟩), undef, undef, undef, .pointer (some ⟨p8, 0, none⟩), .pointer (some ⟨p9, 0, none⟩), .pointer (some ⟨p10, 0, none⟩), .pointer (some ⟨p11, 0, none⟩), .pointer (some ⟨q + 1 + 1 + 1, 0, none⟩), undef, undef, .int .i64 x, .int .i64 y, .slice b m c, clo q, undef, undef, undef, undef, undef, undef, undef, undef, undef, undef, undef, undef, undef, undef, undef, undef, undef, undef, undef, undef, undef, undef, undef], defers := [] } ∧ TopB base l.length cap a q x y (.slice b m c) w W ∧ Boxed W p8 3 (.int .i64 0) ∧ Boxed W p9 24 (.slice none 0 0) ∧ Boxed W p10 25 (.slice none 0 0) ∧ Boxed W p11 4 (.bool false) ∧ W.heap.size = q + 1 + 1 + 1 + 1) ?_ ?_)
  · gi_wp2_with (refine ⟨wide_fn _, ?_⟩; gi_at_call 75; refine (spent_in _ _ _ _ _ _ _).mono ?_; rintro e w2 ⟨rfl, rfl⟩)
    exact ⟨rfl, topB_new b4 hB1 hz, (((b8.alloc _).alloc _).alloc _).alloc _, (((b9.alloc _).alloc _).alloc _).alloc _, (((b10.alloc _).alloc _).alloc _).alloc _, (((b11.alloc _).alloc _).alloc _).alloc _⟩
  clear b4 b8 b9 b10 b11 hB1 hz W1
  rintro e a' W2 ⟨rfl, rfl, hT2, b8, b9, b10, b11, hz2⟩
  show Code.wpIn W0 3 Try.prog _ _ _ _
  have c8 := b8.cell
  have f8 := b8.frozen
  refine wpIn_seq (wpIn_mono (Q := fun e a' W => e = .normal ∧ a' = { tmps := #[.slice base l.length cap, .int .i64 x, .int .i64 y, .slice b m c, .pointer (some ⟨a, 0, none⟩), undef, undef, undef, .pointer (some ⟨p8, 0, none⟩), .pointer (some ⟨p9, 0, none⟩), .pointer (some ⟨p10, 0, none⟩), .pointer (some ⟨p11, 0, none⟩), .pointer (some ⟨q + 1 + 1 + 1, 0, none⟩), undef, undef, .int .i64 x, .int .i64 y, .slice b m c, clo q, undef, undef, undef, undef, undef, undef, undef, undef, undef, undef, undef, undef, undef, undef, undef, undef, undef, undef, undef, undef, undef, undef, undef], defers := [] } ∧ TopB base l.length cap a q x y (.slice b m c) w W ∧ Boxed W p8 3 (.int .i64 (-1)) ∧ Boxed W p9 24 (.slice none 0 0) ∧ Boxed W p10 25 (.slice none 0 0) ∧ Boxed W p11 4 (.bool false) ∧ W.heap.size = q + 1 + 1 + 1 + 1) ?_ ?_)
  · gi_wp2
    have hg := grownBy_setCell' W2 p8 (.int .i64 (-1))
    exact ⟨hT2.kept hg (fun r e => by cases e; omega), b8.set _, b9.kept hg (by simp; omega), b10.kept hg (by simp; omega), b11.kept hg (by simp; omega)⟩
  clear b8 b9 b10 b11 hT2 hz2 c8 f8 W2
  rintro e a' W3 ⟨rfl, rfl, hT3, b8, b9, b10, b11, hz3⟩
  show Code.wpIn W0 3 Try.prog _ _ _ _
  refine wpIn_seq (wpIn_label ?_)
  show Code.wpIn W0 3 Try.prog _ _ _ _
  have c4 := hT3.b4.cell
  gi_wp2_with (refine ⟨wide_fn _, ?_⟩; gi_at_call 76; refine (back_in _ _ _ _ _).mono ?_; rintro e w4 ⟨rfl, rfl⟩)
  have hT4 : TopB base l.length cap a q x y (.slice b m c) w (W3.alloc (.cells #[.slice base l.length cap] 24)) := hT3.kept (World.grownBy_alloc W3 _ none) (fun r e => by cases e)
  have bS := Boxed.new W3 24 (.slice base l.length cap)
  rw [hz3] at bS
  rename_i K hK0
  have hfin : ∀ (D : Nat) (W : World) (sk : Int) (ok : Bool) (x9 x10 : Option Addr) (n9 c9 n10 c10 : Nat), q + 1 + 1 + 1 + 1 + 1 ≤ D → Boxed W p8 3 (.int .i64 sk) → Boxed W p9 24 (.slice x9 n9 c9) → Boxed W p10 25 (.slice x10 n10 c10) → Boxed W p11 4 (.bool ok) → W.heap[D]? = some (.deferred (some [])) →
      (∀ W', W.grownBy W' (some D) → TopE a l x y dead w (.returned (.tuple #[.int .i64 sk, .slice x9 n9 c9, .slice x10 n10 c10, .bool ok])) W') → ∀ A, A = ({ tmps := #[.slice base l.length cap, .int .i64 x, .int .i64 y, .slice b m c, .pointer (some ⟨a, 0, none⟩), undef, undef, undef, .pointer (some ⟨p8, 0, none⟩), .pointer (some ⟨p9, 0, none⟩), .pointer (some ⟨p10, 0, none⟩), .pointer (some ⟨p11, 0, none⟩), .pointer (some ⟨q + 1 + 1 + 1, 0, none⟩), undef, undef, .int .i64 x, .int .i64 y, .slice b m c, clo q, .slice base l.length cap, .func (.func 87) #[] #[.pointer (some ⟨q + 1 + 1 + 1 + 1, 0, none⟩)], undef, undef, undef, undef, undef, undef, undef, undef, undef, undef, undef, undef, undef, undef, undef, undef, undef, undef, undef, undef, undef], defers := [{ target := .collected D, args := #[] }] } : Act) → K A W := by
    intro D W sk ok x9 x10 n9 c9 n10 c10 hD b8 b9 b10 b11 hK hpost A hA
    subst hA
    refine hK0 _ _ ?_
    clear hK0
    refine wpIn_seq (wpIn_region_quiet (C := fun W' => Below W.heap.size W W') wide_ro (by kernel_rfl) (by kernel_rfl) ?_ ?_)
    · exact ⟨rfl, rfl, rfl, Nat.le_refl _, fun _ _ => rfl⟩
    have bx : ∀ {W' : World} {B : Nat} {t : TypeId} {v : Value}, Below W.heap.size W W' → Boxed W B t v → Boxed W' B t v := fun hw hb => (hw.block _ hb.lt).trans hb
    refine wpQuietIn_do rfl (.int .i64 sk) (by quiet_asked_in) (fun w' hw' => ?_) ?_
    · have c0 := (bx hw' b8).cell
      have f0 := (bx hw' b8).frozen
      go_simp
    refine wpQuietIn_do rfl (.slice x9 n9 c9) (by quiet_asked_in) (fun w' hw' => ?_) ?_
    · have c0 := (bx hw' b9).cell
      have f0 := (bx hw' b9).frozen
      go_simp
    refine wpQuietIn_do rfl (.slice x10 n10 c10) (by quiet_asked_in) (fun w' hw' => ?_) ?_
    · have c0 := (bx hw' b10).cell
      have f0 := (bx hw' b10).frozen
      go_simp
    refine wpQuietIn_do rfl (.bool ok) (by quiet_asked_in) (fun w' hw' => ?_) ?_
    · have c0 := (bx hw' b11).cell
      have f0 := (bx hw' b11).frozen
      go_simp
    refine wpQuietIn_do rfl (undef) (by quiet_asked_in) (fun w' hw' => ?_) ?_
    · have c0 := (bx hw' b8).cell
      have f0 := (bx hw' b8).frozen
      have e0 := setCell_id (bx hw' b8)
      go_simp
      try exact e0
    refine wpQuietIn_do rfl (undef) (by quiet_asked_in) (fun w' hw' => ?_) ?_
    · have c0 := (bx hw' b9).cell
      have f0 := (bx hw' b9).frozen
      have e0 := setCell_id (bx hw' b9)
      go_simp
      try exact e0
    refine wpQuietIn_do rfl (undef) (by quiet_asked_in) (fun w' hw' => ?_) ?_
    · have c0 := (bx hw' b10).cell
      have f0 := (bx hw' b10).frozen
      have e0 := setCell_id (bx hw' b10)
      go_simp
      try exact e0
    refine wpQuietIn_do rfl (undef) (by quiet_asked_in) (fun w' hw' => ?_) ?_
    · have c0 := (bx hw' b11).cell
      have f0 := (bx hw' b11).frozen
      have e0 := setCell_id (bx hw' b11)
      go_simp
      try exact e0
    refine wpQuietIn_nil ?_
    rintro W6 hW6
    show Code.wpIn W0 3 Try.prog _ _ _ _
    refine wpIn_ret ?_
    have hK6 : W6.heap[D]? = some (.deferred (some [])) := (hW6.block _ (Array.getElem?_eq_some_iff.1 hK).1).trans hK
    have hg6 := grownBy_putObj' W6 D (.deferred none)
    have hne : ∀ z, z < q + 1 + 1 + 1 + 1 + 1 → some z ≠ some D := fun z hz e => by cases e; omega
    have b8 := ((bx hW6 b8).kept hg6 (hne _ (by omega))).cell
    have b9 := ((bx hW6 b9).kept hg6 (hne _ (by omega))).cell
    have b10 := ((bx hW6 b10).kept hg6 (hne _ (by omega))).cell
    have b11 := ((bx hW6 b11).kept hg6 (hne _ (by omega))).cell
    show bodyPostM W0 3 Try.prog Try.f59 _ Exit.ret _ W6
    refine ⟨by simp, .inl ⟨_, _, rfl, run_takeDeferred hK6, ?_⟩⟩
    refine ⟨.tuple #[.int .i64 sk, .slice x9 n9 c9, .slice x10 n10 c10, .bool ok], ?_, hpost _ ⟨hg6.os.trans hW6.os, hg6.tape.trans hW6.tape, hg6.output.trans hW6.output, Nat.le_trans hW6.size hg6.size, fun z hz hzn => (hg6.block z (Nat.lt_of_lt_of_le hz hW6.size) hzn).trans (hW6.block z hz)⟩⟩
    simp [results, Try.f59, Act.put, go_sem, b8, b9, b10, b11]
  refine wpIn_rangeFunc_ownH (F := W0) (n := 3) (P := Try.prog) wide_ro h1 (gf := 87) (lb := #[.pointer (some ⟨q + 1 + 1 + 1 + 1, 0, none⟩)]) rfl (wide_fn _) (enters_of Try.func87 (by kernel_rfl) rfl)
    (back_stops 2 (by omega) (q + 1 + 1 + 1 + 1) a cap base l hl _ bS (by simp; omega) (hI.below hT4.hB))
    Kp.trans (kp_b (by simp; omega) (by simp; omega)) (Below.refl _ _) (fun _ => rfl)
    (TopI base cap a q p8 p9 p10 p11 l x y dead (.slice b m c) w) (TopX base cap a q p8 p9 p10 p11 l x y dead (.slice b m c) w)
    (topI_own (by simp; omega) (by simp; omega)) (topX_own (by simp; omega) (by simp; omega))
    ⟨⟨_, b10.alloc _, World.ownsRow_nil _ _ _ _, trivial⟩, hT4, b8.alloc _, b9.alloc _, b11.alloc _, (fun k hk => by cases hk), (by simp [World.size_alloc]; omega)⟩
    (TopA base cap a q p8 p9 p10 p11 l x y (.slice b m c)) (fun k a' => topA_own k a') ?assign ?body ?done ?stop
  case assign =>
    intro lp pre k W K hI0 hK
    have hsz : q + 1 + 1 + 1 + 1 < W.heap.size := hI0.2.2.2.2.2.2
    obtain ⟨q1, hq1⟩ : ∃ z, (l[k]).1 = z := ⟨_, rfl⟩
    obtain ⟨q2, hq2⟩ : ∃ z, (l[k]).2.1 = z := ⟨_, rfl⟩
    simp only [encR, hq1, hq2]
    gi_wp2
    refine hK _ _ ((KeepsOthers.alloc W _).from _) ⟨(Below.refl _ _).alloc (by omega) _, fun h => h.alloc _⟩ ((topI_own (B := q + 1 + 1 + 1 + 1) (by omega) (by omega)).alloc _ hI0) ⟨W.heap.size, by rw [hq1, hq2], hsz, ?_⟩
    rw [hq1, hq2]
    exact World.alloc_heap_new W _
  case body =>
    rintro lp pre k a' W hlp _ ⟨⟨v, hv, hrow, _⟩, hT, b8, b9, b11, hsp, hsz⟩ ⟨tb, rfl, htb, hbox⟩ hlt
    have ct0 : W.cell? ⟨tb, 0, none⟩ = some (.int .i64 (l[k]).1) := by simp [World.cell?, hbox]
    have ct1 : W.cell? ⟨tb, 1, none⟩ = some (.int .i64 (l[k]).2.1) := by simp [World.cell?, hbox]
    have hcl : W.cell? ⟨q + 1 + 1 + 1, 0, none⟩ = some (.func (.func 85) #[] #[.pointer (some ⟨q + 1 + 1, 0, none⟩), .pointer (some ⟨q, 0, none⟩), .pointer (some ⟨q + 1, 0, none⟩)]) := hT.b12.cell
    have hcall := spent_at (lp := lp) (N := 0) dead S hS hd hx hy (l[k]).1 (l[k]).2.1 (hw k).1 (hw k).2 hT
    gi_wp2
    refine ⟨wide_fn _, CallsIn.mono hcall ?_⟩
    rintro e w2 ⟨rfl, hb2⟩
    have hwlt := hT.b12.lt
    have hsps : spent x y dead ((l[k]).1, (l[k]).2.1, ()) = spent x y dead l[k] := rfl
    have hT2 := hT.below hb2 (by have := hT.b4.lt; omega) (by omega)
    have b82 : Boxed w2 p8 3 _ := (hb2.block _ b8.lt).trans b8
    have b92 : Boxed w2 p9 24 _ := (hb2.block _ b9.lt).trans b9
    have b112 : Boxed w2 p11 4 _ := (hb2.block _ b11.lt).trans b11
    have hv2 : Boxed w2 p10 25 _ := (hb2.block _ hv.lt).trans hv
    have hrow2 : w2.ownsRow (q + 1 + 1 + 1 + 1 + 1) 3 1 v pre.length (pre.map (sockV l)) := hrow.kept (row := none) ⟨hb2.os, hb2.tape, hb2.output, hb2.size, fun z hz _ => hb2.block z hz⟩ (by
      rcases hrow.2 with ⟨rfl, _⟩ | ⟨g, cap, cur, rfl, _⟩
      · exact .inl rfl
      · exact .inr (by simp [Value.ownBlock]))
    have hbox2 : w2.heap[tb]? = some (.cells #[.int .i64 (l[k]).1, .int .i64 (l[k]).2.1] 68 (0, 0)) := (hb2.block _ (Array.getElem?_eq_some_iff.1 hbox).1).trans hbox
    have hkf2 : KeepsFrom (W3.alloc (.cells #[.slice base l.length cap] 24)).heap.size W w2 := ⟨hb2.size, fun z o _ hz _ => (hb2.block z (Array.getElem?_eq_some_iff.1 hz).1).trans hz⟩
    have hkp2 : Kp a (q + 1 + 1 + 1 + 1) (.slice base l.length cap) W w2 := ⟨hb2.mono (by have := hT.b4.lt; omega), fun h => (hb2.block _ h.lt).trans h⟩
    have hsz2 : W.heap.size ≤ w2.heap.size := hb2.size
    rw [hsps]
    by_cases hs : spent x y dead l[k] = true
    · rw [hs]
      have c10 := hv2.cell
      have ct2 : w2.cell? ⟨tb, 0, none⟩ = some (.int .i64 (l[k]).1) := by simp [World.cell?, hbox2]
      have hAw : q + 1 + 1 + 1 + 1 < w2.heap.size := by omega
      gi_wp2_with (gi_at_builtin; refine wpListIn_append_own _ rfl _ _ 25 rfl (q + 1 + 1 + 1 + 1 + 1) 3 i0 (.int .i64 0) 1 8 und25 hi hz0 hz1 hz2 rfl (by decide) _ _ _ rfl (hrow2.alloc _) ⟨w2.heap.size, 0, none⟩ 1 1 [.int .i64 (l[k]).1] rfl rfl (cell_one_new _ _ _) (by simp [Value.oneCell']) (by omega) (by omega) (by simp; omega) ?_; intro v' w1 hown' hgrow _; obtain ⟨g', cap', rfl⟩ := ownsRow_succ hown'; obtain ⟨hv1, hv3, hr3, hk3, hb3⟩ := hv2.appended (n₀ := a) (by decide) (ownsRow_down hrow2 (by omega)) (by omega) (by omega) (ownsRow_down hown' (by omega)) hgrow; have hc1 := hv1.cell; have hf1 := hv1.frozen)
      have hgrow : (w2.alloc (.cells #[.int .i64 (l[k]).1] 3)).grownBy w1 v.ownBlock := hgrow
      have hnr : ∀ r, v.ownBlock = some r → q + 1 + 1 + 1 + 1 + 1 ≤ r := fun r e => (hrow2.lt r e).1
      have hgs := grownBy_setCell' w1 p10 (.slice (some ⟨g', 0, none⟩) (pre.length + 1) cap')
      have kb : ∀ B t u, Boxed w2 B t u → B ≤ q + 1 + 1 + 1 + 1 → B ≠ p10 → Boxed (w1.setCell ⟨p10, 0, none⟩ (.slice (some ⟨g', 0, none⟩) (pre.length + 1) cap')) B t u := fun B t u hb h1 h2 =>
        ((hb.alloc _).kept hgrow (fun e => by have := hnr _ e.symm; omega)).kept hgs (by simp; omega)
      refine ⟨hkf2.trans (hk3.from _), hkp2.trans ⟨hb3, fun h => kb _ _ _ h (Nat.le_refl _) (by omega)⟩, ⟨_, hv3, ?_, trivial⟩, ⟨kb _ _ _ hT2.b4 (by omega) (by omega), kb _ _ _ hT2.cl (by omega) (by omega), kb _ _ _ hT2.cn (by omega) (by omega), kb _ _ _ hT2.cd (by omega) (by omega), kb _ _ _ hT2.b12 (by omega) (by omega), hT2.hB.trans hb3⟩, kb _ _ _ b82 (by omega) (by omega), kb _ _ _ b92 (by omega) (by omega), kb _ _ _ b112 (by omega) (by omega), ?_, ?_⟩
      · have := hown'.kept hgs (.inr (hv1.not_row (by decide) hown').symm)
        simpa [sockV] using this
      · intro z hz
        rcases List.mem_append.1 hz with h | h
        · exact hsp z h
        · obtain rfl := List.mem_singleton.1 h
          exact hs
      · exact Nat.lt_of_lt_of_le hAw hk3.size
    · rw [Bool.not_eq_true] at hs
      rw [hs]
      gi_wp2
      refine reg7 (l := l) rfl hT2.b4 b82 b92 b112 k.2 hcap (by omega) (by omega) (by omega) hbox2 (fun w' hb => (clone_at _ lp l hl S hS hR k.1 k.2 (hT2.hB.trans (hb.mono (by have := hT2.b4.lt; omega))) (by have := hb.size; have := hT2.b4.lt; omega)).mono ?_) ?_
      · rintro e w3 ⟨x', c', rfl, hr, hb2⟩
        exact ⟨x', c', rfl, ownsRow_down hr hb.size, hb2⟩
      intro x' c' w3 hb3 hr3
      rename_i K7 h7
      refine h7 _ _ (wpIn_exit ?_)
      have hlk : lastK (pre ++ [k]) = k.1 := by simp [lastK]
      have hgd : (l.getD k.1 (0, 0, ())).1 = (l[k]).1 := by rw [List.getD_eq_getElem?_getD, List.getElem?_eq_getElem k.2]; rfl
      have g1 := grownBy_setCell' w3 p8 (.int .i64 (l[k]).1)
      have g2 := grownBy_setCell' (w3.setCell ⟨p8, 0, none⟩ (.int .i64 (l[k]).1)) p9 (.slice x' k.1 c')
      have g3 := grownBy_setCell' ((w3.setCell ⟨p8, 0, none⟩ (.int .i64 (l[k]).1)).setCell ⟨p9, 0, none⟩ (.slice x' k.1 c')) p11 (.bool true)
      have kb : ∀ B t u, Boxed w2 B t u → B ≠ p8 → B ≠ p9 → B ≠ p11 → Boxed (((w3.setCell ⟨p8, 0, none⟩ (.int .i64 (l[k]).1)).setCell ⟨p9, 0, none⟩ (.slice x' k.1 c')).setCell ⟨p11, 0, none⟩ (.bool true)) B t u := fun B t u hb h1 h2 h3 =>
        (((show Boxed w3 B t u from (hb3.block B hb.lt).trans hb).kept g1 (by simp; omega)).kept g2 (by simp; omega)).kept g3 (by simp; omega)
      have hlt2 := hT2.b12.lt
      have hro : ∀ {e : TypeId} {sz n : Nat} {v : Value} {xs : List Value}, w3.ownsRow (q + 1 + 1 + 1 + 1 + 1) e sz v n xs → (((w3.setCell ⟨p8, 0, none⟩ (.int .i64 (l[k]).1)).setCell ⟨p9, 0, none⟩ (.slice x' k.1 c')).setCell ⟨p11, 0, none⟩ (.bool true)).ownsRow (q + 1 + 1 + 1 + 1 + 1) e sz v n xs := fun {e sz n v xs} h => by
        have hn : ∀ z, z < q + 1 + 1 + 1 + 1 + 1 → v.ownBlock ≠ some z := fun z hz e => by have := (h.lt z e).1; omega
        exact ((h.kept g1 (.inr (hn _ (by omega)))).kept g2 (.inr (hn _ (by omega)))).kept g3 (.inr (hn _ (by omega)))
      have b83 : Boxed w3 p8 3 _ := (hb3.block _ b82.lt).trans b82
      have b93 : Boxed w3 p9 24 _ := (hb3.block _ b92.lt).trans b92
      have b113 : Boxed w3 p11 4 _ := (hb3.block _ b112.lt).trans b112
      have hB4 : Below a w2 (((w3.setCell ⟨p8, 0, none⟩ (.int .i64 (l[k]).1)).setCell ⟨p9, 0, none⟩ (.slice x' k.1 c')).setCell ⟨p11, 0, none⟩ (.bool true)) := (((hb3.mono (by have := hT2.b4.lt; omega)).setCell (p := ⟨p8, 0, none⟩) (by simp; omega) _).setCell (p := ⟨p9, 0, none⟩) (by simp; omega) _).setCell (p := ⟨p11, 0, none⟩) (by simp; omega) _
      refine ⟨hkf2.trans (KeepsFrom.trans ⟨hb3.size, fun z o _ hz _ => (hb3.block z (Array.getElem?_eq_some_iff.1 hz).1).trans hz⟩ ((((KeepsOthers.setCell _ _ _).trans (KeepsOthers.setCell _ _ _)).trans (KeepsOthers.setCell _ _ _)).from _)), ⟨v, kb _ _ _ hv2 (by omega) (by omega) (by omega), ?_, trivial⟩, ⟨.slice x' k.1 c', ?_, ?_, trivial⟩,
        ⟨kb _ _ _ hT2.b4 (by omega) (by omega) (by omega), kb _ _ _ hT2.cl (by omega) (by omega) (by omega), kb _ _ _ hT2.cn (by omega) (by omega) (by omega), kb _ _ _ hT2.cd (by omega) (by omega) (by omega), kb _ _ _ hT2.b12 (by omega) (by omega) (by omega), hT2.hB.trans hB4⟩, ?_, (((b113.kept g1 (by simp; omega)).kept g2 (by simp; omega)).set _), rfl, k, pre, rfl, hsp, hs⟩
      · rw [List.dropLast_concat]
        refine hro ?_
        exact hrow2.kept (row := none) ⟨hb3.os, hb3.tape, hb3.output, hb3.size, fun z hz _ => hb3.block z hz⟩ (by
          rcases hrow2.2 with ⟨rfl, _⟩ | ⟨g, cap, cur, rfl, _⟩
          · exact .inl rfl
          · exact .inr (by simp [Value.ownBlock]))
      · exact ((b93.kept g1 (by simp; omega)).set _).kept g3 (by simp; omega)
      · rw [hlk]
        exact hro (ownsRow_down hr3 (by omega))
      · rw [hlk, hgd]
        exact ((b83.set _).kept g2 (by simp; omega)).kept g3 (by simp; omega)
  case done =>
    rintro D xs W hD rfl ⟨⟨v, hv, hrow, _⟩, hT, b8, b9, b11, hsp, hsz⟩ hK
    have hD : q + 1 + 1 + 1 + 1 + 1 ≤ D := by simpa [World.size_alloc, hz3] using hD
    obtain ⟨x0, c0, rfl⟩ := ownsRow_form hrow
    refine hfin D W (-1) false none x0 0 0 _ c0 hD b8 b9 hv b11 hK (fun W' hg => ⟨-1, false, _, _, 0, _, rfl, (ownsRow_down hrow (by omega)).kept hg ?_, World.ownsRow_nil _ _ _ _, hT.hB.grown hg (by have := hT.b4.lt; omega) (fun z e => by cases e; omega), .inl ⟨rfl, rfl, rfl, rfl, hsp⟩⟩) _ rfl
    rcases hrow.2 with ⟨e, _⟩ | ⟨g, cap', cur, e, hg1, hg2, _⟩
    · rw [e]; exact .inl rfl
    · rw [e]
      refine .inr (fun e' => ?_)
      obtain rfl : g = D := by simpa [Value.ownBlock] using e'
      rw [hK] at hg2; cases hg2
  case stop =>
    rintro D c0 pre W hD ⟨j, hj, hpre⟩ ⟨⟨v, hv, hrow, _⟩, ⟨v9, b9, hrow9, _⟩, hT, b8, b11, rfl, k, pre', rfl, hsp, hs⟩ hK
    have hD : q + 1 + 1 + 1 + 1 + 1 ≤ D := by simpa [World.size_alloc, hz3] using hD
    obtain ⟨x0, c0, rfl⟩ := ownsRow_form hrow
    obtain ⟨x9, c9, rfl⟩ := ownsRow_form hrow9
    have hlk : lastK (pre' ++ [k]) = k.1 := by simp [lastK]
    have hgd : (l.getD k.1 (0, 0, ())).1 = (l[k]).1 := by rw [List.getD_eq_getElem?_getD, List.getElem?_eq_getElem k.2]; rfl
    rw [hlk] at b8 b9 hrow9
    rw [hgd] at b8
    rw [List.dropLast_concat] at hrow hv
    have hnD : ∀ {e : TypeId} {sz n : Nat} {v : Value} {xs : List Value}, W.ownsRow (q + 1 + 1 + 1 + 1 + 1) e sz v n xs → v.ownBlock = none ∨ v.ownBlock ≠ some D := fun {e sz n v xs} h => by
      rcases h.2 with ⟨e, _⟩ | ⟨g, cap', cur, e, hg1, hg2, _⟩
      · rw [e]; exact .inl rfl
      · rw [e]
        refine .inr (fun e' => ?_)
        obtain rfl : g = D := by simpa [Value.ownBlock] using e'
        rw [hK] at hg2; cases hg2
    refine wpIn_exit ?_
    exact hfin D W _ true x9 x0 _ c9 _ c0 hD b8 b9 hv b11 hK (fun W' hg => ⟨_, true, _, _, k.1, pre', rfl, (ownsRow_down hrow (by omega)).kept hg (hnD hrow), (ownsRow_down hrow9 (by omega)).kept hg (hnD hrow9), hT.hB.grown hg (by have := hT.b4.lt; omega) (fun z e => by cases e; omega), .inr ⟨k, rfl, rfl, rfl, ⟨j, hj, hpre⟩, hsp, hs⟩⟩) _ rfl
theorem dwn_map (l : List Rs) (j : Nat) (hj : j ≤ l.length) : (dwn l.length j).map (fun k => l[k]) = l.reverse.take j := by
  apply List.ext_getElem
  · simp [dwn]
  · intro i h1 h2
    simp [dwn, List.getElem_reverse]
theorem dw_app {α : Type} (p : α → Bool) : ∀ (a b : List α), (∀ r ∈ a, p r = true) → (a ++ b).dropWhile p = b.dropWhile p
  | [], _, _ => rfl
  | x :: a, b, h => by
    rw [List.cons_append, List.dropWhile_cons_of_pos (h x (List.mem_cons_self ..))]
    exact dw_app p a b fun r hr => h r (List.mem_cons_of_mem _ hr)
theorem tw_app {α : Type} (p : α → Bool) : ∀ (a b : List α), (∀ r ∈ a, p r = true) → (a ++ b).takeWhile p = a ++ b.takeWhile p
  | [], _, _ => rfl
  | x :: a, b, h => by
    rw [List.cons_append, List.takeWhile_cons_of_pos (h x (List.mem_cons_self ..)), tw_app p a b fun r hr => h r (List.mem_cons_of_mem _ hr)]
    rfl
theorem topQ_plain {l : List Rs} {x y : Int} {dead : List Int} {sk : Int} {ok : Bool} {n9 : Nat} {outs : List (Fin l.length)} (h : TopQ l x y dead sk ok n9 outs) :
    sk = topS x y dead l ∧ l.take n9 = topR x y dead l ∧ outs.map (fun k => (l[k]).1) = topO x y dead l ∧ ok = topK x y dead l := by
  rcases h with ⟨rfl, rfl, rfl, rfl, hs⟩ | ⟨k, rfl, rfl, rfl, ⟨j, hj, hp⟩, hsp, hs⟩
  · have e := dwn_map l l.length (Nat.le_refl _)
    rw [List.take_of_length_le (by simp)] at e
    have hall : ∀ r ∈ l.reverse, spent x y dead r = true := by
      intro r hr
      rw [← e] at hr
      obtain ⟨k, hk, rfl⟩ := List.mem_map.1 hr
      exact hs k hk
    have hq : topQ x y dead l = [] := by
      have := dw_app (spent x y dead) l.reverse [] hall
      rw [List.append_nil] at this
      rw [topQ, this]; rfl
    have ho : l.reverse.takeWhile (spent x y dead) = l.reverse := by
      have := tw_app (spent x y dead) l.reverse [] hall
      rw [List.append_nil] at this
      rw [this]; exact List.append_nil _
    refine ⟨by rw [topS, hq]; rfl, by rw [topR, hq]; rfl, ?_, by rw [topK, hq]; rfl⟩
    rw [topO, ho, ← e, List.map_map]
    rfl
  · have hol : outs.length = j := by
      have := congrArg List.length hp
      rw [dwn_len _ _ (by omega)] at this
      simp at this
      omega
    have hd := dwn_succ l.length j hj
    rw [← hp] at hd
    obtain ⟨h1, h2⟩ := List.append_inj hd (by rw [hol, dwn_len _ _ (by omega)])
    have hk : k.1 = l.length - 1 - j := by
      have := List.cons.inj h2
      rw [this.1]
    have e := dwn_map l j (by omega)
    rw [← h1] at e
    have hrev : l.reverse = l.reverse.take j ++ l[k] :: (l.take k.1).reverse := by
      have h3 : l = l.take k.1 ++ l[k] :: l.drop (k.1 + 1) := (List.take_append_drop k.1 l).symm.trans (by rw [List.drop_eq_getElem_cons k.2]; rfl)
      have h4 : (l.drop (k.1 + 1)).reverse = l.reverse.take j := by
        rw [List.reverse_drop]
        congr 1
        omega
      rw [← h4]
      exact (congrArg List.reverse h3).trans (by rw [List.reverse_append, List.reverse_cons, List.append_assoc]; rfl)
    have hall : ∀ r ∈ l.reverse.take j, spent x y dead r = true := by
      intro r hr
      rw [← e] at hr
      obtain ⟨z, hz, rfl⟩ := List.mem_map.1 hr
      exact hsp z hz
    have hdw : l.reverse.dropWhile (spent x y dead) = l[k] :: (l.take k.1).reverse := by
      rw [hrev, dw_app _ _ _ hall, List.dropWhile_cons_of_neg (by rw [hs]; decide)]
    have htw : l.reverse.takeWhile (spent x y dead) = l.reverse.take j := by
      have h5 := tw_app (spent x y dead) _ (l[k] :: (l.take k.1).reverse) hall
      rw [← hrev, List.takeWhile_cons_of_neg (by rw [hs]; decide), List.append_nil] at h5
      exact h5
    have hq : topQ x y dead l = l.take k.1 ++ [l[k]] := by
      rw [topQ, hdw, List.reverse_cons, List.reverse_reverse]
    refine ⟨by rw [topS, hq, List.getLast?_concat], by rw [topR, hq, List.dropLast_concat], ?_, by rw [topK, hq]; exact (decide_eq_true (by simp only [ne_eq, List.append_eq_nil_iff]; exact fun h => by cases h.2)).symm⟩
    rw [topO, htw, ← e, List.map_map]
    rfl
theorem ints_rdL {S : Nat → Prop} {w : World} {l : List Rs} (hw : ∀ k : Fin l.length, IntKind.wrap .i64 (l[k]).1 = (l[k]).1 ∧ IntKind.wrap .i64 (l[k]).2.1 = (l[k]).2.1) : ∀ (outs : List (Fin l.length)), RdL Try.prog I64 S w (outs.map fun k => (l[k]).1) (outs.map (sockV l))
  | [] => rfl
  | k :: r => ⟨[.int .i64 (l[k]).1], _, rfl, ⟨rfl, (hw k).1⟩, ints_rdL hw r⟩
theorem rests_rdL {S : Nat → Prop} {w : World} : ∀ {l : List Rs}, (∀ r ∈ l, IntKind.wrap .i64 r.1 = r.1 ∧ IntKind.wrap .i64 r.2.1 = r.2.1) → RdL Try.prog RestT S w l (restV l)
  | [], _ => rfl
  | (so, si, ⟨⟩) :: r, h => ⟨[.int .i64 so, .int .i64 si], _, rfl, ⟨[_], [_], rfl, ⟨rfl, (h _ (List.mem_cons_self ..)).1⟩, [_], [], rfl, ⟨rfl, (h _ (List.mem_cons_self ..)).2⟩, rfl⟩, rests_rdL fun r hr => h r (List.mem_cons_of_mem _ hr)⟩
theorem row_fin {t : Ty} {e : TypeId} {n len : Nat} {w' W' : World} {v : Value} {cs : List Value} (S : Nat → Prop) (l : List t.El) (hlen : len = l.length) (hr : W'.ownsRow n e t.size v len cs) (hl : RdL Try.prog t (fun b => S b ∨ n ≤ b ∧ b < W'.heap.size) W' l cs) : RdC Try.prog (.sl t) (fun b => S b ∨ n ≤ b ∧ b < W'.heap.size) W' l [v] := by
  subst hlen
  exact row_reads (c := ⟨fun b => S b ∨ n ≤ b ∧ b < W'.heap.size, W', fun _ => .slice none 0 0, []⟩) hr hl (fun b hb => hb) (fun b hb => by
    rcases hr.2 with ⟨rfl, _⟩ | ⟨g, cap, cur, rfl, hg, hh, _⟩
    · cases hb
    · cases hb; exact .inr ⟨hg, (Array.getElem?_eq_some_iff.1 hh).1⟩)
theorem val59 : Valid Try.prog GW 59 cTop := by
  refine ⟨⟨Try.f59, Try.func59, by kernel_rfl, rfl⟩, fun w _ S x cs hS hx hpre => ?_⟩
  obtain ⟨l, lo, no, dead, ⟨⟩⟩ := x
  obtain ⟨c1, c2, rfl, h1, c3, c4, rfl, ⟨rfl, hlo⟩, c5, c6, rfl, ⟨rfl, hno⟩, c7, c8, rfl, h2, rfl⟩ := hx
  have hl : l.length ≤ 1000000 := of_decide_eq_true hpre
  have hR := h1
  have hd := h2
  obtain ⟨base, cap, rfl, _, _, hne⟩ := h1
  obtain ⟨b, c, rfl, _⟩ := h2
  have hel : ∀ k : Fin l.length, ∃ b off, base = some ⟨b, off, none⟩ ∧ b < w.heap.size ∧ w.cell? ⟨b, off + (k : Nat) * 2 + 0, none⟩ = some (.int .i64 (l[k]).1) ∧ w.cell? ⟨b, off + (k : Nat) * 2 + 1, none⟩ = some (.int .i64 (l[k]).2.1) ∧ IntKind.wrap .i64 (l[k]).1 = (l[k]).1 ∧ IntKind.wrap .i64 (l[k]).2.1 = (l[k]).2.1 := fun k => by
    obtain ⟨b, off, e, hb, hel⟩ := hne (fun e => absurd (congrArg (List.length (α := Rs)) e) (by show ¬ List.length (α := Rs) l = 0; have := k.2; omega))
    obtain ⟨es, hes, hlies⟩ := hel k.1 (l[k]) (List.getElem?_eq_getElem k.2)
    obtain ⟨d1, d2, rfl, ⟨rfl, hq1⟩, d3, d4, rfl, ⟨rfl, hq2⟩, rfl⟩ := hes
    exact ⟨b, off, e, hS b hb, hlies 0 _ rfl, hlies 1 _ rfl, hq1, hq2⟩
  have hw : ∀ k : Fin l.length, IntKind.wrap .i64 (l[k]).1 = (l[k]).1 ∧ IntKind.wrap .i64 (l[k]).2.1 = (l[k]).2.1 := fun k => by
    obtain ⟨_, _, _, _, _, _, h⟩ := hel k; exact h
  refine Calls.mono (callsIn_wide.1 (top_in base cap l hl lo no b _ c dead w S hS hd hR hlo hno hw (fun k => by obtain ⟨b, off, h1, h2, h3, h4, _⟩ := hel k; exact ⟨b, off, h1, h2, h3, h4⟩))) ?_
  rintro e W' ⟨sk, ok, v9, v10, n9, outs, rfl, hr10, hr9, hB, hQ⟩
  obtain ⟨e1, e2, e3, e4⟩ := topQ_plain hQ
  have hn9 : n9 = (l.take n9).length := by
    rcases hQ with ⟨_, _, rfl, _⟩ | ⟨k, _, _, rfl, _⟩
    · rfl
    · rw [List.length_take]; have := k.2; omega
  have hmem : ∀ r ∈ l.take n9, IntKind.wrap .i64 r.1 = r.1 ∧ IntKind.wrap .i64 r.2.1 = r.2.1 := fun r hr => by
    obtain ⟨i, hi, rfl⟩ := List.mem_iff_getElem.1 (List.mem_of_mem_take hr)
    exact hw ⟨i, hi⟩
  have hsk : IntKind.wrap .i64 sk = sk := by
    rcases hQ with ⟨_, rfl, _⟩ | ⟨k, _, rfl, _⟩
    · decide
    · exact (hw k).1
  refine ⟨hB, [.int .i64 sk, v9, v10, .bool ok], rfl, ⟨[_], [_, _, _], rfl, ⟨congrArg (fun z => [Value.int .i64 z]) e1, by rw [e1] at hsk; exact hsk⟩, [_], [_, _], rfl, ?_, [_], [_], rfl, ?_, [_], [], rfl, congrArg (fun z => [Value.bool z]) e4, rfl⟩, fun h => by cases h⟩
  · show RdC Try.prog (.sl RestT) _ W' (topR lo no dead l) [v9]
    rw [← e2]
    exact row_fin (w' := W') S (l.take n9) hn9 hr9 (rests_rdL hmem)
  · show RdC Try.prog (.sl I64) _ W' (topO lo no dead l) [v10]
    rw [← e3]
    exact row_fin (w' := W') S _ (by rw [List.length_map]) hr10 (ints_rdL hw outs)
end Go.Proofs.Ytdkcgcgefgeooaa.Bk
namespace Go.Proofs.Ytdkcgcgefgeooaa.Bk
open Go Go.Eng 
set_option maxRecDepth 100000
noncomputable def g61 : Cfg := { tab := Tb.tab, cons := [], inls := [], loops := [], cuts := [], unroll := false, arrs := [], keys := [] }
noncomputable def g79 : Cfg := { tab := Tb.tab, cons := [], inls := [], loops := [], cuts := [], unroll := false, arrs := [], keys := [] }
noncomputable def g80 : Cfg := { tab := Tb.tab, cons := [], inls := [], loops := [], cuts := [], unroll := false, arrs := [], keys := [] }
noncomputable def g42 : Cfg := { tab := Tb.tab, cons := [(68, cSift), (70, cStarts)], inls := [(27, Try.f27), (29, Try.f29), (45, Try.f45), (49, Try.f49), (50, Try.f50), (57, Try.f57), (58, Try.f58)], loops := [], cuts := [], unroll := false, arrs := [], keys := [] }
noncomputable def g66 : Cfg := { tab := Tb.tab, cons := [(80, (cClone 100 40 ScT))], inls := [], loops := [(3, ntA)], cuts := [], unroll := false, arrs := [], keys := [] }
noncomputable def g40 : Cfg := { tab := Tb.tab, cons := [], inls := [], loops := [], cuts := [], unroll := false, arrs := [], keys := [] }
noncomputable def g19 : Cfg := { tab := Tb.tab, cons := [(40, cNone)], inls := [], loops := [], cuts := [], unroll := false, arrs := [], keys := [] }
noncomputable def g18 : Cfg := { tab := Tb.tab, cons := [(39, cOn)], inls := [], loops := [], cuts := [], unroll := false, arrs := [], keys := [] }
noncomputable def g26 : Cfg := { tab := Tb.tab, cons := [(44, cBegin)], inls := [], loops := [], cuts := [], unroll := false, arrs := [], keys := [] }
noncomputable def g15 : Cfg := { tab := Tb.tab, cons := [(59, cTop), (61, (cClip I64)), (62, cJoin), (70, cStarts)], inls := [(27, Try.f27), (29, Try.f29), (36, Try.f36), (45, Try.f45), (49, Try.f49), (50, Try.f50), (57, Try.f57), (58, Try.f58), (60, Try.f60)], loops := [], cuts := [], unroll := false, arrs := [], keys := [] }
noncomputable def g16 : Cfg := { tab := Tb.tab, cons := [(46, cIdx), (48, (cClone 3 8 I64)), (61, (cClip I64)), (70, cStarts), (71, cPart), (78, cHas), (79, (cClip RestT))], mcons := [(47, mDel)], inls := [(27, Try.f27), (29, Try.f29), (37, Try.f37), (45, Try.f45), (49, Try.f49), (50, Try.f50), (57, Try.f57), (58, Try.f58), (60, Try.f60), (63, Try.f63), (64, Try.f64)], loops := [], cuts := [], unroll := false, arrs := [], keys := [] }
end Go.Proofs.Ytdkcgcgefgeooaa.Bk
namespace Go.Proofs.Ytdkcgcgefgeooaa.Bk
open Go Go.Eng 
set_option maxRecDepth 100000
theorem v61_eq : vcFn g61 300 Try.f61 ((cClip I64)) = ( ∀ (x : List Int × Unit), Wr True → Wr ((0 : Int) ≤ (0 : Int)) ∧ Wr ((0 : Int) ≤ (↑(List.length x.fst) : Int)) ∧ Wr ((↑(List.length x.fst) : Int) ≤ (↑(List.length x.fst) : Int)) ∧ Wr ((↑(List.length x.fst) : Int) =
  (↑(List.length x.fst) : Int)) ∧ (List.drop (Int.toNat (0 : Int)) (List.take (Int.toNat (↑(List.length x.fst) : Int)) x.fst), ()) = x) := by kernel_rfl
theorem v79_eq : vcFn g79 300 Try.f79 ((cClip RestT)) = ( ∀ (x : List (Int × Int × Unit) × Unit), Wr True → Wr ((0 : Int) ≤ (0 : Int)) ∧ Wr ((0 : Int) ≤ (↑(List.length x.fst) : Int)) ∧ Wr ((↑(List.length x.fst) : Int) ≤ (↑(List.length x.fst) : Int)) ∧ Wr ((↑(List.length x.fst)
  : Int) = (↑(List.length x.fst) : Int)) ∧ (List.drop (Int.toNat (0 : Int)) (List.take (Int.toNat (↑(List.length x.fst) : Int)) x.fst), ()) = x) := by kernel_rfl
theorem v80_eq : vcFn g80 300 Try.f80 ((cClone 100 40 ScT)) = ( ∀ (x : List ((Int × (Int × Int × Int × Int × Int × Int × Int × Int × Unit) × Int × Unit) × Int × Unit) × Unit), Wr (Decidable.decide (List.length x.fst * (40 : Nat) ≤ (140737488355328 : Nat)) = Bool.true) → ∀ (b : Bool),
  Wr (b = Bool.true → x.fst = nilL ((Int × (Int × Int × Int × Int × Int × Int × Int × Int × Unit) × Int × Unit) × Int × Unit)) → bcase b (x.fst = nilL ((Int × (Int × Int × Int × Int × Int × Int × Int × Int × Unit) × Int ×
  Unit) × Int × Unit)) (Wr ((List.length (nilL ((Int × (Int × Int × Int × Int × Int × Int × Int × Int × Unit) × Int × Unit) × Int × Unit)) + List.length x.fst) * (40 : Nat) ≤ (140737488355328 : Nat)) ∧ nilL ((Int × (Int ×
  Int × Int × Int × Int × Int × Int × Int × Unit) × Int × Unit) × Int × Unit) ++ x.fst = x.fst)) := by kernel_rfl
theorem v42_eq : vcFn g42 300 Try.f42 cOld = ( ∀ (x : ((Int × Int × Int × Int × Int × Int × Int × Int × Int × Unit) × List (Int × Int × Unit) × List Int × List Int × (Int × Bool × Int × Unit) × List ((Int × (Int × Int × Int × Int × Int × Int × Int × Int × Unit) × Int
  × Unit) × Int × Unit) × Bool × Unit) × Int × List Int × Unit), Wr (askOk x.fst x.snd.snd.fst = Bool.true) → Wr (topOk x.fst.snd.fst = Bool.true) ∧ Wr (List.length (sftO x.fst.fst.snd.snd.snd.snd.snd.fst x.snd.fst
  x.snd.snd.fst x.fst.snd.fst) * (8 : Nat) ≤ (140737488355328 : Nat)) ∧ Wr ((!x.fst.snd.snd.snd.snd.snd.snd.fst) = Bool.true → Bool.true = Bool.true) ∧ ((x.fst.fst, sftG x.fst.fst.snd.snd.snd.snd.snd.fst x.snd.fst
  x.snd.snd.fst x.fst.snd.fst, x.fst.snd.snd), (nilL (Int × Int × Int × Unit), sftO x.fst.fst.snd.snd.snd.snd.snd.fst x.snd.fst x.snd.snd.fst x.fst.snd.fst, !x.fst.snd.snd.snd.snd.snd.snd.fst && startsF
  x.fst.snd.snd.snd.snd.fst, Bool.false, ()), ()) = (outB (oldD x.fst x.snd.fst x.snd.snd.fst), outT (oldD x.fst x.snd.fst x.snd.snd.fst), ())) := by kernel_rfl
theorem v66_eq : vcFn g66 300 Try.f66 cNote = ( ∀ (x : List ((Int × (Int × Int × Int × Int × Int × Int × Int × Int × Unit) × Int × Unit) × Int × Unit) × Int × List (Int × (Int × Int × Int × Int × Int × Int × Int × Int × Unit) × Int × Unit) × Unit), Wr
  ((Decidable.decide (List.length x.fst ≤ (1000000 : Nat)) && Decidable.decide (List.length x.snd.snd.fst = (0 : Nat))) = Bool.true) → Wr (Decidable.decide (List.length x.fst * (40 : Nat) ≤ (140737488355328 : Nat)) =
  Bool.true) ∧ (Wr ((0 : Int) = (0 : Int)) ∧ Wr ((0 : Int) = (0 : Int)) ∧ Wr (x.snd.snd.fst = x.snd.snd.fst) ∧ Wr (x.snd.snd.fst = x.snd.snd.fst) ∧ Wr ((↑(List.length x.snd.snd.fst) : Int) = (↑(List.length x.snd.snd.fst)
  : Int)) ∧ Wr (x.fst = x.fst)) ∧ ∀ (x_1 : Int), Wr (x_1 = (0 : Int)) → bcase (Decidable.decide (x_1 < (↑(List.length x.snd.snd.fst) : Int))) (Wr ((0 : Int) ≤ x_1) ∧ Wr (x_1 < (↑(List.length x.snd.snd.fst) : Int)) ∧ Wr
  (Bool.true = Bool.true) ∧ Fail (nat_lit 1030) (nat_lit 5)) (Wr ((0 : Int) ≤ Max.max (0 : Int) (IntKind.wrap IntKind.i64 ((↑(List.length x.fst) : Int) - (32 : Int)))) ∧ Wr (Max.max (0 : Int) (IntKind.wrap IntKind.i64
  ((↑(List.length x.fst) : Int) - (32 : Int))) ≤ (↑(List.length x.fst) : Int)) ∧ Wr ((↑(List.length x.fst) : Int) ≤ (↑(List.length x.fst) : Int)) ∧ (List.drop (Int.toNat (Max.max (0 : Int) (IntKind.wrap IntKind.i64
  ((↑(List.length x.fst) : Int) - (32 : Int))))) (List.take (Int.toNat (↑(List.length x.fst) : Int)) x.fst), ()) = (noteS x.fst, ()))) := by kernel_rfl
theorem v40_eq : vcFn g40 300 Try.f40 cNone = ( ∀ (x : Unit), Wr (Bool.true = Bool.true) → (((-1 : Int), Bool.false, (0 : Int), ()), ()) = (noneF, ())) := by kernel_rfl
theorem v19_eq : vcFn g19 300 Try.f19 cNew = ( ∀ (x : (Int × Int × Int × Int × Int × Int × Int × Int × Int × Unit) × Unit), Wr (Bool.true = Bool.true) → Wr (Bool.true = Bool.true) ∧ ((x.fst, nilL (Int × Int × Unit), nilL Int, nilL Int, noneF, nilL ((Int × (Int × Int
  × Int × Int × Int × Int × Int × Int × Unit) × Int × Unit) × Int × Unit), Bool.false, ()), ()) = (mkB x.fst (nilL (Int × Int × Unit)) (nilL Int) (nilL Int) noneF (nilL ((Int × (Int × Int × Int × Int × Int × Int × Int ×
  Int × Unit) × Int × Unit) × Int × Unit)) Bool.false, ())) := by kernel_rfl
theorem v18_eq : vcFn g18 300 Try.f18 cOver = ( ∀ (x : ((Int × Int × Int × Int × Int × Int × Int × Int × Int × Unit) × List (Int × Int × Unit) × List Int × List Int × (Int × Bool × Int × Unit) × List ((Int × (Int × Int × Int × Int × Int × Int × Int × Int × Unit) × Int
  × Unit) × Int × Unit) × Bool × Unit) × Unit), Wr (Bool.true = Bool.true) → Wr (x.fst.snd.snd.snd.snd.snd.snd.fst = Bool.true → Bool.true = Bool.true) ∧ (x.fst.snd.snd.snd.snd.snd.snd.fst && !onF
  x.fst.snd.snd.snd.snd.fst, ()) = (x.fst.snd.snd.snd.snd.snd.snd.fst && !onF x.fst.snd.snd.snd.snd.fst, ())) := by kernel_rfl
theorem v26_eq : vcFn g26 300 Try.f26 cStarted = ( ∀ (x : ((Int × Int × Int × Int × Int × Int × Int × Int × Int × Unit) × List (Int × Int × Unit) × List Int × List Int × (Int × Bool × Int × Unit) × List ((Int × (Int × Int × Int × Int × Int × Int × Int × Int × Unit) × Int
  × Unit) × Int × Unit) × Bool × Unit) × Int × Unit), Wr (Bool.true = Bool.true) → Wr (Bool.true = Bool.true) ∧ bcase (Decidable.decide (beginE x.fst.snd.snd.snd.snd.fst x.snd.fst = (0 : Int))) (((x.fst.fst,
  x.fst.snd.fst, x.fst.snd.snd.fst, x.fst.snd.snd.snd.fst, beginF x.fst.snd.snd.snd.snd.fst x.snd.fst, x.fst.snd.snd.snd.snd.snd), beginE x.fst.snd.snd.snd.snd.fst x.snd.fst, ()) = (startB x.fst x.snd.fst, beginE
  x.fst.snd.snd.snd.snd.fst x.snd.fst, ())) ((x.fst, beginE x.fst.snd.snd.snd.snd.fst x.snd.fst, ()) = (startB x.fst x.snd.fst, beginE x.fst.snd.snd.snd.snd.fst x.snd.fst, ()))) := by kernel_rfl
theorem v15_eq : vcFn g15 300 Try.f15 cAsk = ( ∀ (x : ((Int × Int × Int × Int × Int × Int × Int × Int × Int × Unit) × List (Int × Int × Unit) × List Int × List Int × (Int × Bool × Int × Unit) × List ((Int × (Int × Int × Int × Int × Int × Int × Int × Int × Unit) × Int
  × Unit) × Int × Unit) × Bool × Unit) × Int × Int × List Int × Unit), Wr (askOk x.fst x.snd.snd.snd.fst = Bool.true) → bcase x.fst.snd.snd.snd.snd.snd.snd.fst (Wr (List.length ((x.snd.fst, (-1 : Int), (240 : Int), ()) ::
  nilL (Int × Int × Int × Unit)) * (24 : Nat) ≤ (140737488355328 : Nat)) ∧ Wr ((!x.fst.snd.snd.snd.snd.snd.snd.fst) = Bool.true → Bool.true = Bool.true) ∧ (x.fst, ((x.snd.fst, (-1 : Int), (240 : Int), ()) :: nilL (Int ×
  Int × Int × Unit), nilL Int, !x.fst.snd.snd.snd.snd.snd.snd.fst && startsF x.fst.snd.snd.snd.snd.fst, Bool.false, ()), ()) = (outB (askD x.fst x.snd.fst x.snd.snd.fst x.snd.snd.snd.fst), outT (askD x.fst x.snd.fst
  x.snd.snd.fst x.snd.snd.snd.fst), ())) (Wr (topOk x.fst.snd.fst = Bool.true) ∧ Wr (List.length (topO x.fst.fst.snd.snd.snd.snd.snd.fst x.snd.snd.fst x.snd.snd.snd.fst x.fst.snd.fst) * (8 : Nat) ≤ (140737488355328 :
  Nat)) ∧ bcase (topK x.fst.fst.snd.snd.snd.snd.snd.fst x.snd.snd.fst x.snd.snd.snd.fst x.fst.snd.fst) (Wr True ∧ Wr ((List.length x.fst.snd.snd.fst + List.length (topS x.fst.fst.snd.snd.snd.snd.snd.fst x.snd.snd.fst
  x.snd.snd.snd.fst x.fst.snd.fst :: nilL Int)) * (8 : Nat) ≤ (140737488355328 : Nat)) ∧ Wr ((0 : Nat) < List.length (topS x.fst.fst.snd.snd.snd.snd.snd.fst x.snd.snd.fst x.snd.snd.snd.fst x.fst.snd.fst :: nilL Int)) ∧ Wr
  (List.length ((x.snd.fst, topS x.fst.fst.snd.snd.snd.snd.snd.fst x.snd.snd.fst x.snd.snd.snd.fst x.fst.snd.fst, (0 : Int), ()) :: nilL (Int × Int × Int × Unit)) * (24 : Nat) ≤ (140737488355328 : Nat)) ∧ Wr
  ((!x.fst.snd.snd.snd.snd.snd.snd.fst) = Bool.true → Bool.true = Bool.true) ∧ ((x.fst.fst, topR x.fst.fst.snd.snd.snd.snd.snd.fst x.snd.snd.fst x.snd.snd.snd.fst x.fst.snd.fst, x.fst.snd.snd.fst ++ topS
  x.fst.fst.snd.snd.snd.snd.snd.fst x.snd.snd.fst x.snd.snd.snd.fst x.fst.snd.fst :: nilL Int, x.fst.snd.snd.snd), ((x.snd.fst, topS x.fst.fst.snd.snd.snd.snd.snd.fst x.snd.snd.fst x.snd.snd.snd.fst x.fst.snd.fst, (0 :
  Int), ()) :: nilL (Int × Int × Int × Unit), topO x.fst.fst.snd.snd.snd.snd.snd.fst x.snd.snd.fst x.snd.snd.snd.fst x.fst.snd.fst, !x.fst.snd.snd.snd.snd.snd.snd.fst && startsF x.fst.snd.snd.snd.snd.fst, Bool.false, ()),
  ()) = (outB (askD x.fst x.snd.fst x.snd.snd.fst x.snd.snd.snd.fst), outT (askD x.fst x.snd.fst x.snd.snd.fst x.snd.snd.snd.fst), ())) (bcase (Decidable.decide ((↑(List.length x.fst.snd.snd.snd.fst) : Int) ≥
  x.fst.fst.snd.snd.fst)) (Wr (List.length ((x.snd.fst, (-1 : Int), (230 : Int), ()) :: nilL (Int × Int × Int × Unit)) * (24 : Nat) ≤ (140737488355328 : Nat)) ∧ Wr ((!x.fst.snd.snd.snd.snd.snd.snd.fst) = Bool.true →
  Bool.true = Bool.true) ∧ ((x.fst.fst, topR x.fst.fst.snd.snd.snd.snd.snd.fst x.snd.snd.fst x.snd.snd.snd.fst x.fst.snd.fst, x.fst.snd.snd), ((x.snd.fst, (-1 : Int), (230 : Int), ()) :: nilL (Int × Int × Int × Unit),
  topO x.fst.fst.snd.snd.snd.snd.snd.fst x.snd.snd.fst x.snd.snd.snd.fst x.fst.snd.fst, !x.fst.snd.snd.snd.snd.snd.snd.fst && startsF x.fst.snd.snd.snd.snd.fst, Bool.false, ()), ()) = (outB (askD x.fst x.snd.fst
  x.snd.snd.fst x.snd.snd.snd.fst), outT (askD x.fst x.snd.fst x.snd.snd.fst x.snd.snd.snd.fst), ())) (Wr True ∧ Wr ((List.length x.fst.snd.snd.snd.fst + List.length (x.snd.fst :: nilL Int)) * (8 : Nat) ≤ (140737488355328
  : Nat)) ∧ Wr ((0 : Nat) < List.length (x.snd.fst :: nilL Int)) ∧ Wr ((Decidable.decide (x.fst.snd.snd.snd.snd.fst.snd.snd.fst ≤ (1152921504606846976 : Ty.El I64)) && Decidable.decide (List.length (x.snd.fst :: nilL Int)
  = (1 : Nat))) = Bool.true) ∧ Wr ((!x.fst.snd.snd.snd.snd.snd.snd.fst) = Bool.true → Bool.true = Bool.true) ∧ ((x.fst.fst, topR x.fst.fst.snd.snd.snd.snd.snd.fst x.snd.snd.fst x.snd.snd.snd.fst x.fst.snd.fst,
  x.fst.snd.snd.fst, x.fst.snd.snd.snd.fst ++ x.snd.fst :: nilL Int, joinF x.fst.snd.snd.snd.snd.fst, x.fst.snd.snd.snd.snd.snd), (nilL (Int × Int × Int × Unit), topO x.fst.fst.snd.snd.snd.snd.snd.fst x.snd.snd.fst
  x.snd.snd.snd.fst x.fst.snd.fst, !x.fst.snd.snd.snd.snd.snd.snd.fst && startsF (joinF x.fst.snd.snd.snd.snd.fst), Bool.false, ()), ()) = (outB (askD x.fst x.snd.fst x.snd.snd.fst x.snd.snd.snd.fst), outT (askD x.fst
  x.snd.fst x.snd.snd.fst x.snd.snd.snd.fst), ()))))) := by kernel_rfl
theorem v16_eq : vcFn g16 300 Try.f16 cBack = ( ∀ (x : ((Int × Int × Int × Int × Int × Int × Int × Int × Int × Unit) × List (Int × Int × Unit) × List Int × List Int × (Int × Bool × Int × Unit) × List ((Int × (Int × Int × Int × Int × Int × Int × Int × Int × Unit) × Int
  × Unit) × Int × Unit) × Bool × Unit) × Int × Int × Bool × Int × List Int × Unit), Wr ((szB x.fst && szI x.snd.snd.snd.snd.snd.fst) = Bool.true) → Wr (Bool.true = Bool.true) ∧ bcase x.fst.snd.snd.snd.snd.snd.snd.fst (Wr
  (List.length ((x.snd.fst, (-1 : Int), (240 : Int), ()) :: nilL (Int × Int × Int × Unit)) * (24 : Nat) ≤ (140737488355328 : Nat)) ∧ Wr ((!x.fst.snd.snd.snd.snd.snd.snd.fst) = Bool.true → Bool.true = Bool.true) ∧ (x.fst,
  ((x.snd.fst, (-1 : Int), (240 : Int), ()) :: nilL (Int × Int × Int × Unit), nilL Int, !x.fst.snd.snd.snd.snd.snd.snd.fst && startsF x.fst.snd.snd.snd.snd.fst, Bool.false, ()), ()) = (outB (backD x.fst x.snd.fst
  x.snd.snd.fst x.snd.snd.snd.fst x.snd.snd.snd.snd.fst x.snd.snd.snd.snd.snd.fst), outT (backD x.fst x.snd.fst x.snd.snd.fst x.snd.snd.snd.fst x.snd.snd.snd.snd.fst x.snd.snd.snd.snd.snd.fst), ())) (bcase
  (Decidable.decide (idxN x.snd.snd.fst x.fst.snd.snd.fst < (0 : Int))) (Wr (List.length ((x.snd.fst, (-1 : Int), (80 : Int), ()) :: nilL (Int × Int × Int × Unit)) * (24 : Nat) ≤ (140737488355328 : Nat)) ∧ Wr
  ((!x.fst.snd.snd.snd.snd.snd.snd.fst) = Bool.true → Bool.true = Bool.true) ∧ (x.fst, ((x.snd.fst, (-1 : Int), (80 : Int), ()) :: nilL (Int × Int × Int × Unit), nilL Int, !x.fst.snd.snd.snd.snd.snd.snd.fst && startsF
  x.fst.snd.snd.snd.snd.fst, Bool.false, ()), ()) = (outB (backD x.fst x.snd.fst x.snd.snd.fst x.snd.snd.snd.fst x.snd.snd.snd.snd.fst x.snd.snd.snd.snd.snd.fst), outT (backD x.fst x.snd.fst x.snd.snd.fst
  x.snd.snd.snd.fst x.snd.snd.snd.snd.fst x.snd.snd.snd.snd.snd.fst), ())) (Wr (Decidable.decide (List.length x.fst.snd.snd.fst * (8 : Nat) ≤ (140737488355328 : Nat)) = Bool.true) ∧ Wr ((0 : Ty.El I64) ≤ idxN
  x.snd.snd.fst x.fst.snd.snd.fst ∧ idxN x.snd.snd.fst x.fst.snd.snd.fst ≤ IntKind.wrap IntKind.i64 (idxN x.snd.snd.fst x.fst.snd.snd.fst + (1 : Int)) ∧ IntKind.wrap IntKind.i64 (idxN x.snd.snd.fst x.fst.snd.snd.fst + (1
  : Int)) ≤ (↑(List.length x.fst.snd.snd.fst) : Int) ∧ List.length x.fst.snd.snd.fst ≤ (1000000000 : Nat)) ∧ Wr (List.length ((x.snd.fst, (-1 : Int), (0 : Int), ()) :: nilL (Int × Int × Int × Unit)) * (24 : Nat) ≤
  (140737488355328 : Nat)) ∧ bcase x.snd.snd.snd.fst (Wr (Bool.true = Bool.true) ∧ bcase (Bool.true && !hasN x.snd.snd.snd.snd.snd.fst x.snd.snd.fst) (bcase (Decidable.decide ((↑(List.length x.fst.snd.snd.snd.fst) : Int)
  > (0 : Int))) (Wr ((0 : Int) ≤ (0 : Int)) ∧ Wr ((0 : Int) < (↑(List.length x.fst.snd.snd.snd.fst) : Int)) ∧ Wr (Bool.true = Bool.true) ∧ Wr ((0 : Int) ≤ (1 : Int)) ∧ Wr ((1 : Int) ≤ (↑(List.length x.fst.snd.snd.snd.fst)
  : Int)) ∧ Wr ((↑(List.length x.fst.snd.snd.snd.fst) : Int) ≤ (↑(List.length x.fst.snd.snd.snd.fst) : Int)) ∧ Wr (Decidable.decide (List.length (List.drop (Int.toNat (1 : Int)) (List.take (Int.toNat (↑(List.length
  x.fst.snd.snd.snd.fst) : Int)) x.fst.snd.snd.snd.fst)) * (8 : Nat) ≤ (140737488355328 : Nat)) = Bool.true) ∧ Wr True ∧ Wr ((List.length (delL x.fst.snd.snd.fst (idxN x.snd.snd.fst x.fst.snd.snd.fst) (IntKind.wrap
  IntKind.i64 (idxN x.snd.snd.fst x.fst.snd.snd.fst + (1 : Int)))) + List.length (x.snd.snd.fst :: nilL Int)) * (8 : Nat) ≤ (140737488355328 : Nat)) ∧ Wr ((0 : Nat) < List.length (x.snd.snd.fst :: nilL Int)) ∧ Wr
  ((List.length ((x.snd.fst, (-1 : Int), (0 : Int), ()) :: nilL (Int × Int × Int × Unit)) + List.length ((List.getD x.fst.snd.snd.snd.fst (Int.toNat (0 : Int)) (0 : Int), x.snd.snd.fst, (0 : Int), ()) :: nilL (Int × Int ×
  Int × Unit))) * (24 : Nat) ≤ (140737488355328 : Nat)) ∧ Wr (Bool.true = Bool.true) ∧ Wr ((!x.fst.snd.snd.snd.snd.snd.snd.fst) = Bool.true → Bool.true = Bool.true) ∧ ((x.fst.fst, x.fst.snd.fst, delL x.fst.snd.snd.fst
  (idxN x.snd.snd.fst x.fst.snd.snd.fst) (IntKind.wrap IntKind.i64 (idxN x.snd.snd.fst x.fst.snd.snd.fst + (1 : Int))) ++ x.snd.snd.fst :: nilL Int, List.drop (Int.toNat (1 : Int)) (List.take (Int.toNat (↑(List.length
  x.fst.snd.snd.snd.fst) : Int)) x.fst.snd.snd.snd.fst), partF x.fst.snd.snd.snd.snd.fst (1 : Int), x.fst.snd.snd.snd.snd.snd), ((x.snd.fst, (-1 : Int), (0 : Int), ()) :: nilL (Int × Int × Int × Unit) ++ (List.getD
  x.fst.snd.snd.snd.fst (Int.toNat (0 : Int)) (0 : Int), x.snd.snd.fst, (0 : Int), ()) :: nilL (Int × Int × Int × Unit), nilL Int, !x.fst.snd.snd.snd.snd.snd.snd.fst && startsF (partF x.fst.snd.snd.snd.snd.fst (1 : Int)),
  Bool.false || partC x.fst.snd.snd.snd.snd.fst (1 : Int), ()), ()) = (outB (backD x.fst x.snd.fst x.snd.snd.fst x.snd.snd.snd.fst x.snd.snd.snd.snd.fst x.snd.snd.snd.snd.snd.fst), outT (backD x.fst x.snd.fst
  x.snd.snd.fst x.snd.snd.snd.fst x.snd.snd.snd.snd.fst x.snd.snd.snd.snd.snd.fst), ())) (bcase (Decidable.decide ((↑(List.length x.fst.snd.fst) : Int) < x.fst.fst.snd.fst)) (Wr True ∧ Wr ((List.length x.fst.snd.fst +
  List.length ((x.snd.snd.fst, x.snd.snd.snd.snd.fst, ()) :: nilL (Int × Int × Unit))) * (16 : Nat) ≤ (140737488355328 : Nat)) ∧ Wr ((0 : Nat) < List.length ((x.snd.snd.fst, x.snd.snd.snd.snd.fst, ()) :: nilL (Int × Int ×
  Unit))) ∧ Wr ((!x.fst.snd.snd.snd.snd.snd.snd.fst) = Bool.true → Bool.true = Bool.true) ∧ ((x.fst.fst, x.fst.snd.fst ++ (x.snd.snd.fst, x.snd.snd.snd.snd.fst, ()) :: nilL (Int × Int × Unit), delL x.fst.snd.snd.fst (idxN
  x.snd.snd.fst x.fst.snd.snd.fst) (IntKind.wrap IntKind.i64 (idxN x.snd.snd.fst x.fst.snd.snd.fst + (1 : Int))), x.fst.snd.snd.snd), ((x.snd.fst, (-1 : Int), (0 : Int), ()) :: nilL (Int × Int × Int × Unit), nilL Int,
  !x.fst.snd.snd.snd.snd.snd.snd.fst && startsF x.fst.snd.snd.snd.snd.fst, Bool.false, ()), ()) = (outB (backD x.fst x.snd.fst x.snd.snd.fst x.snd.snd.snd.fst x.snd.snd.snd.snd.fst x.snd.snd.snd.snd.snd.fst), outT (backD
  x.fst x.snd.fst x.snd.snd.fst x.snd.snd.snd.fst x.snd.snd.snd.snd.fst x.snd.snd.snd.snd.snd.fst), ())) (Wr (List.length (x.snd.snd.fst :: nilL Int) * (8 : Nat) ≤ (140737488355328 : Nat)) ∧ Wr
  ((!x.fst.snd.snd.snd.snd.snd.snd.fst) = Bool.true → Bool.true = Bool.true) ∧ ((x.fst.fst, x.fst.snd.fst, delL x.fst.snd.snd.fst (idxN x.snd.snd.fst x.fst.snd.snd.fst) (IntKind.wrap IntKind.i64 (idxN x.snd.snd.fst
  x.fst.snd.snd.fst + (1 : Int))), x.fst.snd.snd.snd), ((x.snd.fst, (-1 : Int), (0 : Int), ()) :: nilL (Int × Int × Int × Unit), x.snd.snd.fst :: nilL Int, !x.fst.snd.snd.snd.snd.snd.snd.fst && startsF
  x.fst.snd.snd.snd.snd.fst, Bool.false, ()), ()) = (outB (backD x.fst x.snd.fst x.snd.snd.fst x.snd.snd.snd.fst x.snd.snd.snd.snd.fst x.snd.snd.snd.snd.snd.fst), outT (backD x.fst x.snd.fst x.snd.snd.fst
  x.snd.snd.snd.fst x.snd.snd.snd.snd.fst x.snd.snd.snd.snd.snd.fst), ())))) (Wr (List.length (x.snd.snd.fst :: nilL Int) * (8 : Nat) ≤ (140737488355328 : Nat)) ∧ Wr ((!x.fst.snd.snd.snd.snd.snd.snd.fst) = Bool.true →
  Bool.true = Bool.true) ∧ ((x.fst.fst, x.fst.snd.fst, delL x.fst.snd.snd.fst (idxN x.snd.snd.fst x.fst.snd.snd.fst) (IntKind.wrap IntKind.i64 (idxN x.snd.snd.fst x.fst.snd.snd.fst + (1 : Int))), x.fst.snd.snd.snd),
  ((x.snd.fst, (-1 : Int), (0 : Int), ()) :: nilL (Int × Int × Int × Unit), x.snd.snd.fst :: nilL Int, !x.fst.snd.snd.snd.snd.snd.snd.fst && startsF x.fst.snd.snd.snd.snd.fst, Bool.false, ()), ()) = (outB (backD x.fst
  x.snd.fst x.snd.snd.fst x.snd.snd.snd.fst x.snd.snd.snd.snd.fst x.snd.snd.snd.snd.snd.fst), outT (backD x.fst x.snd.fst x.snd.snd.fst x.snd.snd.snd.fst x.snd.snd.snd.snd.fst x.snd.snd.snd.snd.snd.fst), ()))) (Wr
  (List.length (x.snd.snd.fst :: nilL Int) * (8 : Nat) ≤ (140737488355328 : Nat)) ∧ Wr ((!x.fst.snd.snd.snd.snd.snd.snd.fst) = Bool.true → Bool.true = Bool.true) ∧ ((x.fst.fst, x.fst.snd.fst, delL x.fst.snd.snd.fst (idxN
  x.snd.snd.fst x.fst.snd.snd.fst) (IntKind.wrap IntKind.i64 (idxN x.snd.snd.fst x.fst.snd.snd.fst + (1 : Int))), x.fst.snd.snd.snd), ((x.snd.fst, (-1 : Int), (0 : Int), ()) :: nilL (Int × Int × Int × Unit), x.snd.snd.fst
  :: nilL Int, !x.fst.snd.snd.snd.snd.snd.snd.fst && startsF x.fst.snd.snd.snd.snd.fst, Bool.false, ()), ()) = (outB (backD x.fst x.snd.fst x.snd.snd.fst x.snd.snd.snd.fst x.snd.snd.snd.snd.fst x.snd.snd.snd.snd.snd.fst),
  outT (backD x.fst x.snd.fst x.snd.snd.fst x.snd.snd.snd.fst x.snd.snd.snd.snd.fst x.snd.snd.snd.snd.snd.fst), ()))))) := by kernel_rfl
end Go.Proofs.Ytdkcgcgefgeooaa.Bk
set_option linter.all false
namespace Go.Proofs.Ytdkcgcgefgeooaa.Bk
open Go Go.Eng Go.RowKit
set_option maxRecDepth 100000
set_option maxHeartbeats 8000000
theorem v40 : Vc g40 300 Try.f40 cNone := by
  constructor
  rw [v40_eq]
  simp only [Wr_iff, bcase_iff, true_and, and_true, decide_eq_true_eq, decide_eq_false_iff_not, Bool.and_eq_true, Bool.and_eq_false_iff, Bool.or_eq_true, Bool.or_eq_false_iff, Bool.not_eq_true', Bool.not_eq_false', Option.map_some, Option.getD_some, Option.isSome_some, Option.isSome_map, imp_self, nilL, noneO]
  intro x
  first | exact trivial | exact fun _ => rfl
theorem v19 : Vc g19 300 Try.f19 cNew := by
  constructor
  rw [v19_eq]
  simp only [Wr_iff, bcase_iff, true_and, and_true, decide_eq_true_eq, decide_eq_false_iff_not, Bool.and_eq_true, Bool.and_eq_false_iff, Bool.or_eq_true, Bool.or_eq_false_iff, Bool.not_eq_true', Bool.not_eq_false', Option.map_some, Option.getD_some, Option.isSome_some, Option.isSome_map, imp_self, nilL, noneO]
  intro x
  first | exact trivial | exact fun _ => rfl
theorem v18 : Vc g18 300 Try.f18 cOver := by
  constructor
  rw [v18_eq]
  simp only [Wr_iff, bcase_iff, true_and, and_true, decide_eq_true_eq, decide_eq_false_iff_not, Bool.and_eq_true, Bool.and_eq_false_iff, Bool.or_eq_true, Bool.or_eq_false_iff, Bool.not_eq_true', Bool.not_eq_false', Option.map_some, Option.getD_some, Option.isSome_some, Option.isSome_map, imp_self, nilL, noneO]
  intro x
  first | exact trivial | exact fun _ => rfl | exact fun _ _ => trivial | exact fun _ => ⟨fun _ => trivial, rfl⟩
theorem v61 : Vc g61 300 Try.f61 (cClip I64) := by
  constructor
  rw [v61_eq]
  simp only [Wr_iff, bcase_iff, true_and, and_true, decide_eq_true_eq, decide_eq_false_iff_not, Bool.and_eq_true, Bool.and_eq_false_iff, Bool.or_eq_true, Bool.or_eq_false_iff, Bool.not_eq_true', Bool.not_eq_false', Option.map_some, Option.getD_some, Option.isSome_some, Option.isSome_map, imp_self, nilL, noneO]
  rintro ⟨l, ⟨⟩⟩ _
  refine ⟨by omega, by simp, by omega, ?_⟩
  simp
theorem v79 : Vc g79 300 Try.f79 (cClip RestT) := by
  constructor
  rw [v79_eq]
  simp only [Wr_iff, bcase_iff, true_and, and_true, decide_eq_true_eq, decide_eq_false_iff_not, Bool.and_eq_true, Bool.and_eq_false_iff, Bool.or_eq_true, Bool.or_eq_false_iff, Bool.not_eq_true', Bool.not_eq_false', Option.map_some, Option.getD_some, Option.isSome_some, Option.isSome_map, imp_self, nilL, noneO]
  rintro ⟨l, ⟨⟩⟩ _
  refine ⟨by omega, by simp, by omega, ?_⟩
  simp
theorem v80 : Vc g80 300 Try.f80 (cClone 100 40 ScT) := by
  constructor
  rw [v80_eq]
  simp only [Wr_iff, bcase_iff, true_and, and_true, decide_eq_true_eq, decide_eq_false_iff_not, Bool.and_eq_true, Bool.and_eq_false_iff, Bool.or_eq_true, Bool.or_eq_false_iff, Bool.not_eq_true', Bool.not_eq_false', Option.map_some, Option.getD_some, Option.isSome_some, Option.isSome_map, imp_self, nilL, noneO]
  rintro ⟨l, ⟨⟩⟩ h b hb
  dsimp only at *
  exact ⟨hb, fun _ => ⟨by simpa using h, by simp⟩⟩
theorem v26 : Vc g26 300 Try.f26 cStarted := by
  constructor
  rw [v26_eq]
  simp only [Wr_iff, bcase_iff, true_and, and_true, decide_eq_true_eq, decide_eq_false_iff_not, Bool.and_eq_true, Bool.and_eq_false_iff, Bool.or_eq_true, Bool.or_eq_false_iff, Bool.not_eq_true', Bool.not_eq_false', Option.map_some, Option.getD_some, Option.isSome_some, Option.isSome_map, imp_self, nilL, noneO]
  rintro ⟨b, r, ⟨⟩⟩ _
  dsimp only
  rw [startB]
  refine ⟨fun h => ?_, fun h => ?_⟩
  · rw [decide_eq_true h]; rfl
  · rw [decide_eq_false h]; rfl
theorem v66 : Vc g66 300 Try.f66 cNote := by
  constructor
  rw [v66_eq]
  simp only [Wr_iff, bcase_iff, true_and, and_true, decide_eq_true_eq, decide_eq_false_iff_not, Bool.and_eq_true, Bool.and_eq_false_iff, Bool.or_eq_true, Bool.or_eq_false_iff, Bool.not_eq_true', Bool.not_eq_false', Option.map_some, Option.getD_some, Option.isSome_some, Option.isSome_map, imp_self, nilL, noneO]
  rintro ⟨l, n, bad, ⟨⟩⟩ ⟨h1, h2⟩
  dsimp only at *
  refine ⟨by omega, fun k hk => ⟨fun hl => absurd hl (by omega), fun _ => ?_⟩⟩
  have e : IntKind.wrap .i64 ((l.length : Int) - 32) = (l.length : Int) - 32 := wrap_id (by omega) (by omega)
  rw [e]
  refine ⟨by omega, by omega, Int.le_refl _, ?_⟩
  have e2 : (max 0 ((l.length : Int) - 32)).toNat = l.length - 32 := by omega
  rw [e2, noteS, Int.toNat_natCast, List.take_length]
theorem top_lens (lo now : Int) (dead : List Int) (l : List Rs) : (topO lo now dead l).length ≤ l.length ∧ (topR lo now dead l).length ≤ l.length := by
  constructor
  · rw [topO, List.length_map]
    exact Nat.le_trans (List.takeWhile_sublist _).length_le (by rw [List.length_reverse]; exact Nat.le_refl _)
  · rw [topR, List.length_dropLast, topQ, List.length_reverse]
    have := (List.dropWhile_sublist (spent lo now dead) (l := l.reverse)).length_le
    rw [List.length_reverse] at this
    omega
theorem v42 : Vc g42 300 Try.f42 cOld := by
  constructor
  rw [v42_eq]
  simp only [Wr_iff, bcase_iff, true_and, and_true, decide_eq_true_eq, decide_eq_false_iff_not, Bool.and_eq_true, Bool.and_eq_false_iff, Bool.or_eq_true, Bool.or_eq_false_iff, Bool.not_eq_true', Bool.not_eq_false', Option.map_some, Option.getD_some, Option.isSome_some, Option.isSome_map, imp_self, nilL, noneO]
  rintro ⟨⟨cf, id, le, wa, fl, sc, cl, ⟨⟩⟩, now, dead, ⟨⟩⟩ hb
  dsimp only at *
  simp only [askOk, Bool.and_eq_true] at hb
  obtain ⟨hs, hd⟩ := hb
  rw [szB_iff] at hs
  have hsO := sft_lens cf.2.2.2.2.2.1 now dead id
  dsimp only at hs hsO
  exact ⟨decide_eq_true hs.1, by omega, fun _ => trivial, rfl⟩
theorem v15 : Vc g15 300 Try.f15 cAsk := by
  constructor
  rw [v15_eq]
  simp only [Wr_iff, bcase_iff, true_and, and_true, decide_eq_true_eq, decide_eq_false_iff_not, Bool.and_eq_true, Bool.and_eq_false_iff, Bool.or_eq_true, Bool.or_eq_false_iff, Bool.not_eq_true', Bool.not_eq_false', Option.map_some, Option.getD_some, Option.isSome_some, Option.isSome_map, imp_self, nilL, noneO]
  rintro ⟨b, c, now, dead, ⟨⟩⟩ hb
  dsimp only at *
  simp only [askOk, Bool.and_eq_true] at hb
  obtain ⟨hs, hd⟩ := hb
  rw [szB_iff] at hs
  obtain ⟨t1, t2⟩ := top_lens b.1.2.2.2.2.2.1 now dead b.2.1
  refine ⟨fun h => ⟨by simp, fun _ => trivial, ?_⟩, fun h => ⟨decide_eq_true hs.1, by omega, fun h2 => ⟨by simp; omega, by simp, by simp, fun _ => trivial, ?_⟩, fun h2 => ⟨fun h3 => ⟨by simp, fun _ => trivial, ?_⟩, fun h3 => ⟨by simp; omega, by simp, ⟨by omega, by simp⟩, fun _ => trivial, ?_⟩⟩⟩⟩
  · have e : askD b c now dead = (b, [(c, -1, 240, ())], [], false) := by rw [askD, h]; rfl
    rw [e]; rfl
  · have e : askD b c now dead = (mkB b.1 (topR b.1.2.2.2.2.2.1 now dead b.2.1) (b.2.2.1 ++ [topS b.1.2.2.2.2.2.1 now dead b.2.1]) b.2.2.2.1 b.2.2.2.2.1 b.2.2.2.2.2.1 b.2.2.2.2.2.2.1, [(c, topS b.1.2.2.2.2.2.1 now dead b.2.1, 0, ())], topO b.1.2.2.2.2.2.1 now dead b.2.1, false) := by rw [askD, h, h2]; rfl
    rw [e]; rfl
  · have e : askD b c now dead = (mkB b.1 (topR b.1.2.2.2.2.2.1 now dead b.2.1) b.2.2.1 b.2.2.2.1 b.2.2.2.2.1 b.2.2.2.2.2.1 b.2.2.2.2.2.2.1, [(c, -1, 230, ())], topO b.1.2.2.2.2.2.1 now dead b.2.1, false) := by rw [askD, h, h2, decide_eq_true (show b.1.2.2.1 ≤ (b.2.2.2.1.length : Int) from h3)]; rfl
    rw [e]; rfl
  · have e : askD b c now dead = (mkB b.1 (topR b.1.2.2.2.2.2.1 now dead b.2.1) b.2.2.1 (b.2.2.2.1 ++ [c]) (joinF b.2.2.2.2.1) b.2.2.2.2.2.1 b.2.2.2.2.2.2.1, [], topO b.1.2.2.2.2.2.1 now dead b.2.1, false) := by rw [askD, h, h2, decide_eq_false (show ¬ b.1.2.2.1 ≤ (b.2.2.2.1.length : Int) from h3)]; rfl
    rw [e]; rfl
theorem fileW {cf : Cf} {id : List Rs} {le : List Int} {w : Int} {ws : List Int} {fl : Fl} {sc : List Sc} {cl : Bool} {re : List Rp} {sh : List Int} {sock now : Int} :
    fileD (mkB cf id le (w :: ws) fl sc cl) re sh sock now = (mkB cf id (le ++ [sock]) ws (partF fl 1) sc cl, re ++ [(w, sock, 0, ())], sh, partC fl 1) := rfl
theorem fileI {cf : Cf} {id : List Rs} {le : List Int} {fl : Fl} {sc : List Sc} {cl : Bool} {re : List Rp} {sh : List Int} {sock now : Int} (h : (id.length : Int) < cf.2.1) :
    fileD (mkB cf id le [] fl sc cl) re sh sock now = (mkB cf (id ++ [(sock, now, ())]) le [] fl sc cl, re, sh, false) := by
  rw [fileD]; dsimp only; rw [decide_eq_true h]; rfl
theorem fileS {cf : Cf} {id : List Rs} {le : List Int} {fl : Fl} {sc : List Sc} {cl : Bool} {re : List Rp} {sh : List Int} {sock now : Int} (h : ¬ (id.length : Int) < cf.2.1) :
    fileD (mkB cf id le [] fl sc cl) re sh sock now = (mkB cf id le [] fl sc cl, re, sh ++ [sock], false) := by
  rw [fileD]; dsimp only; rw [decide_eq_false h]; rfl
theorem v16 : Vc g16 300 Try.f16 cBack := by
  constructor
  rw [v16_eq]
  simp only [Wr_iff, bcase_iff, true_and, and_true, decide_eq_true_eq, decide_eq_false_iff_not, Bool.and_eq_true, Bool.and_eq_false_iff, Bool.or_eq_true, Bool.or_eq_false_iff, Bool.not_eq_true', Bool.not_eq_false', Option.map_some, Option.getD_some, Option.isSome_some, Option.isSome_map, imp_self, nilL, noneO]
  rintro ⟨⟨cf, id, le, wa, fl, sc, cl, ⟨⟩⟩, c, sock, keep, now, dead, ⟨⟩⟩ hb
  dsimp only at *
  obtain ⟨hs, hd⟩ := hb
  rw [szB_iff] at hs
  dsimp only at hs
  simp only [szI, decide_eq_true_eq] at hd
  have hi := idx_cases sock le
  refine ⟨fun h => ⟨by simp, fun _ => trivial, ?_⟩, fun h => ⟨fun h2 => ⟨by simp, fun _ => trivial, ?_⟩, fun h2 => ?_⟩⟩
  · subst h
    have e : backD (cf, id, le, wa, fl, sc, true, ()) c sock keep now dead = ((cf, id, le, wa, fl, sc, true, ()), [(c, -1, 240, ())], [], false) := rfl
    rw [e]; rfl
  · subst h
    have e : backD (cf, id, le, wa, fl, sc, false, ()) c sock keep now dead = ((cf, id, le, wa, fl, sc, false, ()), [(c, -1, 80, ())], [], false) := by rw [backD]; dsimp only; rw [decide_eq_true h2]; rfl
    rw [e]; rfl
  subst h
  have ew : IntKind.wrap .i64 (idxN sock le + 1) = idxN sock le + 1 := wrap_id (by omega) (by omega)
  rw [ew]
  have hdl : (delL le (idxN sock le) (idxN sock le + 1)).length ≤ le.length := by
    rw [delL, List.length_append, List.length_take, List.length_drop]; omega
  have e0 : backD (cf, id, le, wa, fl, sc, false, ()) c sock keep now dead = bif keep && !hasN dead sock then fileD (mkB cf id (delL le (idxN sock le) (idxN sock le + 1)) wa fl sc false) [(c, -1, 0, ())] [] sock now else
        (mkB cf id (delL le (idxN sock le) (idxN sock le + 1)) wa fl sc false, [(c, -1, 0, ())], [sock], false) := by rw [backD]; dsimp only; rw [decide_eq_false h2]; rfl
  rw [e0]
  generalize delL le (idxN sock le) (idxN sock le + 1) = le' at *
  refine ⟨by omega, ⟨by show (0 : Int) ≤ _; omega, by omega, by omega, by omega⟩, by simp, fun hk => ⟨fun hh => ⟨fun hw => ?_, fun hw => ⟨fun hc => ⟨by simp; omega, by simp, fun _ => trivial, ?_⟩, fun hc => ⟨by simp, fun _ => trivial, ?_⟩⟩⟩, fun hh => ⟨by simp, fun _ => trivial, ?_⟩⟩, fun hk => ⟨by simp, fun _ => trivial, ?_⟩⟩
  · subst hk
    rw [hh]
    cases wa with
    | nil => exact absurd hw (by simp)
    | cons w ws =>
      simp only [List.length_cons] at hs hw ⊢
      refine ⟨by omega, by omega, by omega, by omega, by omega, by simp; omega, by simp; omega, by simp, by simp, fun _ => trivial, ?_⟩
      rw [show (bif true && !false then fileD (mkB cf id le' (w :: ws) fl sc false) [(c, -1, 0, ())] [] sock now else (mkB cf id le' (w :: ws) fl sc false, [(c, -1, 0, ())], [sock], false)) = fileD (mkB cf id le' (w :: ws) fl sc false) [(c, -1, 0, ())] [] sock now from rfl, fileW]
      simp [outB, outT, endsB, mkB]
  · subst hk
    rw [hh]
    have hw0 : wa = [] := List.length_eq_zero_iff.1 (by omega)
    subst hw0
    rw [show (bif true && !false then fileD (mkB cf id le' [] fl sc false) [(c, -1, 0, ())] [] sock now else (mkB cf id le' [] fl sc false, [(c, -1, 0, ())], [sock], false)) = fileD (mkB cf id le' [] fl sc false) [(c, -1, 0, ())] [] sock now from rfl, fileI hc]
    rfl
  · subst hk
    rw [hh]
    have hw0 : wa = [] := List.length_eq_zero_iff.1 (by omega)
    subst hw0
    rw [show (bif true && !false then fileD (mkB cf id le' [] fl sc false) [(c, -1, 0, ())] [] sock now else (mkB cf id le' [] fl sc false, [(c, -1, 0, ())], [sock], false)) = fileD (mkB cf id le' [] fl sc false) [(c, -1, 0, ())] [] sock now from rfl, fileS hc]
    rfl
  · have hh2 : hasN dead sock = true := hh.resolve_left (by decide)
    rw [hh2, Bool.not_true, Bool.and_false]; rfl
  · rw [hk, Bool.false_and]; rfl
end Go.Proofs.Ytdkcgcgefgeooaa.Bk
namespace Go.Proofs.Ytdkcgcgefgeooaa.Bk
open Go Go.Eng 
set_option maxRecDepth 100000
theorem val61 : Valid Try.prog GW 61 ((cClip I64)) := mkValid gws Tb.mix Tb.tab_ok Tb.eqs_ok g61 rfl allV_nil allI_nil Try.func61 (by kernel_rfl) v61
theorem val79 : Valid Try.prog GW 79 ((cClip RestT)) := mkValid gws Tb.mix Tb.tab_ok Tb.eqs_ok g79 rfl allV_nil allI_nil Try.func79 (by kernel_rfl) v79
theorem val80 : Valid Try.prog GW 80 ((cClone 100 40 ScT)) := mkValid gws Tb.mix Tb.tab_ok Tb.eqs_ok g80 rfl allV_nil allI_nil Try.func80 (by kernel_rfl) v80
theorem val42 : Valid Try.prog GW 42 cOld := mkValid gws Tb.mix Tb.tab_ok Tb.eqs_ok g42 rfl (allV_cons val68 (allV_cons val70 allV_nil)) (allI_cons Try.func27 (by kernel_rfl) (allI_cons Try.func29 (by kernel_rfl) (allI_cons Try.func45 (by kernel_rfl) (allI_cons Try.func49 (by kernel_rfl) (allI_cons Try.func50 (by kernel_rfl) (allI_cons Try.func57 (by kernel_rfl) (allI_cons Try.func58 (by kernel_rfl) allI_nil))))))) Try.func42 (by kernel_rfl) v42
theorem val66 : Valid Try.prog GW 66 cNote := mkValid gws Tb.mix Tb.tab_ok Tb.eqs_ok g66 rfl (allV_cons val80 allV_nil) allI_nil Try.func66 (by kernel_rfl) v66
theorem val40 : Valid Try.prog GW 40 cNone := mkValid gws Tb.mix Tb.tab_ok Tb.eqs_ok g40 rfl allV_nil allI_nil Try.func40 (by kernel_rfl) v40
theorem val19 : Valid Try.prog GW 19 cNew := mkValid gws Tb.mix Tb.tab_ok Tb.eqs_ok g19 rfl (allV_cons val40 allV_nil) allI_nil Try.func19 (by kernel_rfl) v19
theorem val18 : Valid Try.prog GW 18 cOver := mkValid gws Tb.mix Tb.tab_ok Tb.eqs_ok g18 rfl (allV_cons val39 allV_nil) allI_nil Try.func18 (by kernel_rfl) v18
theorem val26 : Valid Try.prog GW 26 cStarted := mkValid gws Tb.mix Tb.tab_ok Tb.eqs_ok g26 rfl (allV_cons val44 allV_nil) allI_nil Try.func26 (by kernel_rfl) v26
theorem val15 : Valid Try.prog GW 15 cAsk := mkValid gws Tb.mix Tb.tab_ok Tb.eqs_ok g15 rfl (allV_cons val59 (allV_cons val61 (allV_cons val62 (allV_cons val70 allV_nil)))) (allI_cons Try.func27 (by kernel_rfl) (allI_cons Try.func29 (by kernel_rfl) (allI_cons Try.func36 (by kernel_rfl) (allI_cons Try.func45 (by kernel_rfl) (allI_cons Try.func49 (by kernel_rfl) (allI_cons Try.func50 (by kernel_rfl) (allI_cons Try.func57 (by kernel_rfl) (allI_cons Try.func58 (by kernel_rfl) (allI_cons Try.func60 (by kernel_rfl) allI_nil))))))))) Try.func15 (by kernel_rfl) v15
theorem val16 : Valid Try.prog GW 16 cBack := mkValidM gws Tb.mix Tb.tab_ok Tb.eqs_ok (by kernel_rfl) g16 rfl (allM_cons mval47 allM_nil) (allV_cons val46 (allV_cons val48 (allV_cons val61 (allV_cons val70 (allV_cons val71 (allV_cons val78 (allV_cons val79 allV_nil))))))) (allI_cons Try.func27 (by kernel_rfl) (allI_cons Try.func29 (by kernel_rfl) (allI_cons Try.func37 (by kernel_rfl) (allI_cons Try.func45 (by kernel_rfl) (allI_cons Try.func49 (by kernel_rfl) (allI_cons Try.func50 (by kernel_rfl) (allI_cons Try.func57 (by kernel_rfl) (allI_cons Try.func58 (by kernel_rfl) (allI_cons Try.func60 (by kernel_rfl) (allI_cons Try.func63 (by kernel_rfl) (allI_cons Try.func64 (by kernel_rfl) allI_nil))))))))))) Try.func16 (by kernel_rfl) v16
end Go.Proofs.Ytdkcgcgefgeooaa.Bk
namespace Go.Proofs.Ytdkcgcgefgeooaa.Bk
open Go Go.Eng 
set_option maxRecDepth 100000
noncomputable def g17 : Cfg := { tab := Tb.tab, cons := [(48, (cClone 3 8 I64)), (61, (cClip I64)), (65, cEnd), (66, cNote), (70, cStarts), (71, cPart), (78, cHas), (79, (cClip RestT))], inls := [(27, Try.f27), (29, Try.f29), (38, Try.f38), (45, Try.f45), (49, Try.f49), (50, Try.f50), (56, Try.f56), (57, Try.f57), (58, Try.f58), (60, Try.f60), (63, Try.f63), (64, Try.f64)], loops := [(570001, alA)], cuts := [], unroll := false, arrs := [], keys := [] }
noncomputable def g14 : Cfg := { tab := Tb.tab, cons := [(13, cOwns), (70, cStarts), (71, cPart)], inls := [(27, Try.f27), (29, Try.f29), (35, Try.f35), (45, Try.f45), (49, Try.f49), (50, Try.f50), (56, Try.f56), (57, Try.f57), (58, Try.f58)], loops := [(570001, alA)], cuts := [], unroll := false, arrs := [], keys := [] }
end Go.Proofs.Ytdkcgcgefgeooaa.Bk

/-
  A text of mine, of several parts: HtVc, HtP, HlL, HlP, HaP, HtV.
-/
import Derived.Test.YtfkfjbppncbkjaaHaa
import Derived.Test.YtfkfjbppncbkjaaHab
set_option linter.all false
namespace Go.Proofs.Ytfkfjbppncbkjaa.Ht
open Go Go.Eng
set_option maxRecDepth 100000
theorem v67_eq : vcFn g67 300 Try.f67 cOf = ( ∀ (x : Int × Unit), Wr True → (Min.min (Max.max x.fst (0 : Int)) (1073741824 : Int), ()) = (clamp x.fst, ())) := by kernel_rfl
theorem v69_eq : vcFn g69 300 Try.f69 cOf = ( ∀ (x : Int × Unit), Wr True → Wr True ∧ (clamp x.fst, ()) = (clamp x.fst, ())) := by kernel_rfl
theorem v41_eq : vcFn g41 300 Try.f41 cOf = ( ∀ (x : Int × Unit), Wr True → bcase (Decidable.decide (x.fst < (0 : Int))) (((0 : Int), ()) = (clamp x.fst, ())) (bcase (Decidable.decide (x.fst > (1073741824 : Int))) (((1073741824 : Int), ()) = (clamp x.fst, ())) (x =
  (clamp x.fst, ())))) := by kernel_rfl
theorem v55_eq : vcFn g55 300 Try.f55 cOld = ( ∀ (x : Int × Int × Int × Unit), Wr True → Wr True ∧ Wr True ∧ Wr True ∧ Wr True ∧ (Decidable.decide (clamp x.snd.snd.fst ≥ clamp (IntKind.wrap IntKind.i64 (clamp x.fst + clamp x.snd.fst))), ()) = (oldB x.fst x.snd.fst
  x.snd.snd.fst, ())) := by kernel_rfl
theorem v54_eq : vcFn g54 300 Try.f54 cLeft = ( ∀ (x : Option ((List (Int × (Int × Int × Int × Int × Int × Int × Int × Int × Unit) × Int × Unit) × Int × Int × List Int × Int × Bool × Unit) × Unit) × Unit), Wr (Option.isSome x.fst = Bool.true) → Wr (Option.isSome x.fst
  = Bool.true) ∧ Wr (Option.isSome x.fst = Bool.true) ∧ Wr (Option.isSome (Option.map (fun (x : (List (Int × (Int × Int × Int × Int × Int × Int × Int × Int × Unit) × Int × Unit) × Int × Int × List Int × Int × Bool × Unit)
  × Unit) => x.fst) x.fst) = Bool.true) ∧ Wr (Option.isSome (Option.map (fun (x : List (Int × (Int × Int × Int × Int × Int × Int × Int × Int × Unit) × Int × Unit) × Int × Int × List Int × Int × Bool × Unit) => x.snd.fst)
  (Option.map (fun (x : (List (Int × (Int × Int × Int × Int × Int × Int × Int × Int × Unit) × Int × Unit) × Int × Int × List Int × Int × Bool × Unit) × Unit) => x.fst) x.fst)) = Bool.true) ∧ Wr (Decidable.decide
  (Option.getD (Option.map (fun (x : List (Int × (Int × Int × Int × Int × Int × Int × Int × Int × Unit) × Int × Unit) × Int × Int × List Int × Int × Bool × Unit) => x.snd.fst) (Option.map (fun (x : (List (Int × (Int × Int
  × Int × Int × Int × Int × Int × Int × Unit) × Int × Unit) × Int × Int × List Int × Int × Bool × Unit) × Unit) => x.fst) x.fst)) (0 : Int) ≥ (0 : Int)) = Bool.true → Option.isSome x.fst = Bool.true) ∧ Wr
  (Decidable.decide (Option.getD (Option.map (fun (x : List (Int × (Int × Int × Int × Int × Int × Int × Int × Int × Unit) × Int × Unit) × Int × Int × List Int × Int × Bool × Unit) => x.snd.fst) (Option.map (fun (x : (List
  (Int × (Int × Int × Int × Int × Int × Int × Int × Int × Unit) × Int × Unit) × Int × Int × List Int × Int × Bool × Unit) × Unit) => x.fst) x.fst)) (0 : Int) ≥ (0 : Int)) = Bool.true → Option.isSome x.fst = Bool.true) ∧
  Wr (Decidable.decide (Option.getD (Option.map (fun (x : List (Int × (Int × Int × Int × Int × Int × Int × Int × Int × Unit) × Int × Unit) × Int × Int × List Int × Int × Bool × Unit) => x.snd.fst) (Option.map (fun (x :
  (List (Int × (Int × Int × Int × Int × Int × Int × Int × Int × Unit) × Int × Unit) × Int × Int × List Int × Int × Bool × Unit) × Unit) => x.fst) x.fst)) (0 : Int) ≥ (0 : Int)) = Bool.true → Option.isSome (Option.map (fun
  (x : (List (Int × (Int × Int × Int × Int × Int × Int × Int × Int × Unit) × Int × Unit) × Int × Int × List Int × Int × Bool × Unit) × Unit) => x.fst) x.fst) = Bool.true) ∧ Wr (Decidable.decide (Option.getD (Option.map
  (fun (x : List (Int × (Int × Int × Int × Int × Int × Int × Int × Int × Unit) × Int × Unit) × Int × Int × List Int × Int × Bool × Unit) => x.snd.fst) (Option.map (fun (x : (List (Int × (Int × Int × Int × Int × Int × Int
  × Int × Int × Unit) × Int × Unit) × Int × Int × List Int × Int × Bool × Unit) × Unit) => x.fst) x.fst)) (0 : Int) ≥ (0 : Int)) = Bool.true → Option.isSome (Option.map (fun (x : List (Int × (Int × Int × Int × Int × Int ×
  Int × Int × Int × Unit) × Int × Unit) × Int × Int × List Int × Int × Bool × Unit) => x.snd.fst) (Option.map (fun (x : (List (Int × (Int × Int × Int × Int × Int × Int × Int × Int × Unit) × Int × Unit) × Int × Int × List
  Int × Int × Bool × Unit) × Unit) => x.fst) x.fst)) = Bool.true) ∧ Wr (Decidable.decide (Option.getD (Option.map (fun (x : List (Int × (Int × Int × Int × Int × Int × Int × Int × Int × Unit) × Int × Unit) × Int × Int ×
  List Int × Int × Bool × Unit) => x.snd.fst) (Option.map (fun (x : (List (Int × (Int × Int × Int × Int × Int × Int × Int × Int × Unit) × Int × Unit) × Int × Int × List Int × Int × Bool × Unit) × Unit) => x.fst) x.fst))
  (0 : Int) ≥ (0 : Int)) = Bool.true → Option.isSome x.fst = Bool.true) ∧ Wr (Decidable.decide (Option.getD (Option.map (fun (x : List (Int × (Int × Int × Int × Int × Int × Int × Int × Int × Unit) × Int × Unit) × Int ×
  Int × List Int × Int × Bool × Unit) => x.snd.fst) (Option.map (fun (x : (List (Int × (Int × Int × Int × Int × Int × Int × Int × Int × Unit) × Int × Unit) × Int × Int × List Int × Int × Bool × Unit) × Unit) => x.fst)
  x.fst)) (0 : Int) ≥ (0 : Int)) = Bool.true → Option.isSome x.fst = Bool.true) ∧ Wr (Decidable.decide (Option.getD (Option.map (fun (x : List (Int × (Int × Int × Int × Int × Int × Int × Int × Int × Unit) × Int × Unit) ×
  Int × Int × List Int × Int × Bool × Unit) => x.snd.fst) (Option.map (fun (x : (List (Int × (Int × Int × Int × Int × Int × Int × Int × Int × Unit) × Int × Unit) × Int × Int × List Int × Int × Bool × Unit) × Unit) =>
  x.fst) x.fst)) (0 : Int) ≥ (0 : Int)) = Bool.true → Option.isSome (Option.map (fun (x : (List (Int × (Int × Int × Int × Int × Int × Int × Int × Int × Unit) × Int × Unit) × Int × Int × List Int × Int × Bool × Unit) ×
  Unit) => x.fst) x.fst) = Bool.true) ∧ Wr (Decidable.decide (Option.getD (Option.map (fun (x : List (Int × (Int × Int × Int × Int × Int × Int × Int × Int × Unit) × Int × Unit) × Int × Int × List Int × Int × Bool × Unit)
  => x.snd.fst) (Option.map (fun (x : (List (Int × (Int × Int × Int × Int × Int × Int × Int × Int × Unit) × Int × Unit) × Int × Int × List Int × Int × Bool × Unit) × Unit) => x.fst) x.fst)) (0 : Int) ≥ (0 : Int)) =
  Bool.true → Option.isSome (Option.map (fun (x : List (Int × (Int × Int × Int × Int × Int × Int × Int × Int × Unit) × Int × Unit) × Int × Int × List Int × Int × Bool × Unit) => x.fst) (Option.map (fun (x : (List (Int ×
  (Int × Int × Int × Int × Int × Int × Int × Int × Unit) × Int × Unit) × Int × Int × List Int × Int × Bool × Unit) × Unit) => x.fst) x.fst)) = Bool.true) ∧ (Decidable.decide (Option.getD (Option.map (fun (x : List (Int ×
  (Int × Int × Int × Int × Int × Int × Int × Int × Unit) × Int × Unit) × Int × Int × List Int × Int × Bool × Unit) => x.snd.fst) (Option.map (fun (x : (List (Int × (Int × Int × Int × Int × Int × Int × Int × Int × Unit) ×
  Int × Unit) × Int × Int × List Int × Int × Bool × Unit) × Unit) => x.fst) x.fst)) (0 : Int) ≥ (0 : Int)) && Decidable.decide (Option.getD (Option.map (fun (x : List (Int × (Int × Int × Int × Int × Int × Int × Int × Int
  × Unit) × Int × Unit) × Int × Int × List Int × Int × Bool × Unit) => x.snd.fst) (Option.map (fun (x : (List (Int × (Int × Int × Int × Int × Int × Int × Int × Int × Unit) × Int × Unit) × Int × Int × List Int × Int × Bool
  × Unit) × Unit) => x.fst) x.fst)) (0 : Int) < (↑(List.length (Option.getD (Option.map (fun (x : List (Int × (Int × Int × Int × Int × Int × Int × Int × Int × Unit) × Int × Unit) × Int × Int × List Int × Int × Bool ×
  Unit) => x.fst) (Option.map (fun (x : (List (Int × (Int × Int × Int × Int × Int × Int × Int × Int × Unit) × Int × Unit) × Int × Int × List Int × Int × Bool × Unit) × Unit) => x.fst) x.fst)) (Ty.zero (Ty.sl addrT)))) :
  Int)), ()) = (leftB (Option.getD x.fst (Ty.zero courseT)).fst, ())) := by kernel_rfl
theorem v53_eq : vcFn g53 300 Try.f53 (cClone 60 32 addrT) = ( ∀ (x : List (Int × (Int × Int × Int × Int × Int × Int × Int × Int × Unit) × Int × Unit) × Unit), Wr (Decidable.decide (List.length x.fst * (32 : Nat) ≤ (140737488355328 : Nat)) = Bool.true) → ∀ (b : Bool), Wr (b =
  Bool.true → x.fst = nilL (Int × (Int × Int × Int × Int × Int × Int × Int × Int × Unit) × Int × Unit)) → bcase b (x.fst = nilL (Int × (Int × Int × Int × Int × Int × Int × Int × Int × Unit) × Int × Unit)) (Wr
  ((List.length (nilL (Int × (Int × Int × Int × Int × Int × Int × Int × Int × Unit) × Int × Unit)) + List.length x.fst) * (32 : Nat) ≤ (140737488355328 : Nat)) ∧ nilL (Int × (Int × Int × Int × Int × Int × Int × Int × Int
  × Unit) × Int × Unit) ++ x.fst = x.fst)) := by kernel_rfl
theorem v70_eq : vcFn g70 300 Try.f70 (cClone 3 8 I64) = ( ∀ (x : List Int × Unit), Wr (Decidable.decide (List.length x.fst * (8 : Nat) ≤ (140737488355328 : Nat)) = Bool.true) → ∀ (b : Bool), Wr (b = Bool.true → x.fst = nilL Int) → bcase b (x.fst = nilL Int) (Wr ((List.length
  (nilL Int) + List.length x.fst) * (8 : Nat) ≤ (140737488355328 : Nat)) ∧ nilL Int ++ x.fst = x.fst)) := by kernel_rfl
theorem v52_eq : vcFn g52 300 Try.f52 cTwo = ( ∀ (x : Unit), Wr True → (((4 : Int), ((2560 : Int), (1 : Int), (0 : Int), (0 : Int), (0 : Int), (0 : Int), (0 : Int), (0 : Int), ()), (80 : Int), ()) :: ((4 : Int), ((2560 : Int), (2 : Int), (0 : Int), (0 : Int), (0 :
  Int), (0 : Int), (0 : Int), (0 : Int), ()), (80 : Int), ()) :: nilL (Int × (Int × Int × Int × Int × Int × Int × Int × Int × Unit) × Int × Unit), ()) = (two, ())) := by kernel_rfl
theorem v34_eq : vcFn g34 300 Try.f34 cBegin = ( ∀ (x : List (Int × (Int × Int × Int × Int × Int × Int × Int × Int × Unit) × Int × Unit) × Unit), Wr (Decidable.decide (List.length x.fst ≤ (1000000 : Nat)) = Bool.true) → Wr (Decidable.decide (List.length x.fst * (32 :
  Nat) ≤ (140737488355328 : Nat)) = Bool.true) ∧ ((x.fst, (0 : Int), (0 : Int), nilL Int, (0 : Int), Bool.true, ()), ()) = (begin x.fst, ())) := by kernel_rfl
theorem v35_eq : vcFn g35 300 Try.f35 cReady = ( ∀ (x : (List (Int × (Int × Int × Int × Int × Int × Int × Int × Int × Unit) × Int × Unit) × Int × Int × List Int × Int × Bool × Unit) × Int × Int × Unit), Wr (okH x.fst = Bool.true) → Wr (Bool.true = Bool.true) ∧ Wr
  ((leftB x.fst && !x.fst.snd.snd.snd.snd.snd.fst && Decidable.decide (x.fst.snd.fst > (0 : Int))) = Bool.true → True) ∧ (leftB x.fst && (x.fst.snd.snd.snd.snd.snd.fst || Decidable.decide (x.fst.snd.fst > (0 : Int)) &&
  oldB x.fst.snd.snd.snd.snd.fst x.snd.fst x.snd.snd.fst), ()) = (readyB x.fst x.snd.fst x.snd.snd.fst, ())) := by kernel_rfl
theorem v36_eq : vcFn g36 300 Try.f36 cStart = ( ∀ (x : (List (Int × (Int × Int × Int × Int × Int × Int × Int × Int × Unit) × Int × Unit) × Int × Int × List Int × Int × Bool × Unit) × Int × Unit), Wr (okH x.fst = Bool.true) → Wr (Bool.true = Bool.true) ∧ bcase (!leftB
  x.fst) ((x.fst, (0 : Int), ((0 : Int), ((0 : Int), (0 : Int), (0 : Int), (0 : Int), (0 : Int), (0 : Int), (0 : Int), (0 : Int), ()), (0 : Int), ()), (2 : Int), ()) = start x.fst x.snd.fst) (Wr True ∧ Wr ((0 : Int) ≤
  IntKind.wrap IntKind.i64 (IntKind.wrap IntKind.i64 (x.fst.snd.fst + (1 : Int)) - (1 : Int))) ∧ Wr (IntKind.wrap IntKind.i64 (IntKind.wrap IntKind.i64 (x.fst.snd.fst + (1 : Int)) - (1 : Int)) < (↑(List.length x.fst.fst)
  : Int)) ∧ Wr (Bool.true = Bool.true) ∧ ((x.fst.fst, IntKind.wrap IntKind.i64 (x.fst.snd.fst + (1 : Int)), IntKind.wrap IntKind.i64 (x.fst.snd.snd.fst + (1 : Int)), x.fst.snd.snd.snd.fst, clamp x.snd.fst, Bool.false,
  ()), IntKind.wrap IntKind.i64 (IntKind.wrap IntKind.i64 (x.fst.snd.fst + (1 : Int)) - (1 : Int)), List.getD x.fst.fst (Int.toNat (IntKind.wrap IntKind.i64 (IntKind.wrap IntKind.i64 (x.fst.snd.fst + (1 : Int)) - (1 :
  Int)))) (Ty.zero addrT), (0 : Int), ()) = start x.fst x.snd.fst)) := by kernel_rfl
theorem v38_eq : vcFn g38 300 Try.f38 cTime = ( ∀ (x : (List (Int × (Int × Int × Int × Int × Int × Int × Int × Int × Unit) × Int × Unit) × Int × Int × List Int × Int × Bool × Unit) × Unit), Wr (okH x.fst = Bool.true) → Wr ((!x.fst.snd.snd.snd.snd.snd.fst) = Bool.true
  → Bool.true = Bool.true) ∧ ((x.fst.fst, x.fst.snd.fst, x.fst.snd.snd.fst, x.fst.snd.snd.snd.fst, x.fst.snd.snd.snd.snd.fst, x.fst.snd.snd.snd.snd.snd.fst || leftB x.fst, ()), ()) = (timeF x.fst, ())) := by kernel_rfl
theorem v37_eq : vcFn g37 300 Try.f37 cLost = ( ∀ (x : (List (Int × (Int × Int × Int × Int × Int × Int × Int × Int × Unit) × Int × Unit) × Int × Int × List Int × Int × Bool × Unit) × List Int × Unit), Wr (okLost x.fst x.snd.fst = Bool.true) → Wr (Decidable.decide
  (List.length x.fst.snd.snd.snd.fst * (8 : Nat) ≤ (140737488355328 : Nat)) = Bool.true) ∧ (Wr (WatchInv x.fst.snd.snd.snd.fst (WatchS.mk (0 : Int) ((0 : Nat), fun (x : Int) => noneO Int))) ∧ Wr ((0 : Int) = (0 : Int)) ∧
  Wr (x.fst.snd.snd.snd.fst = x.fst.snd.snd.snd.fst) ∧ Wr ((↑(List.length x.fst.snd.snd.snd.fst) : Int) = (↑(List.length x.fst.snd.snd.snd.fst) : Int)) ∧ Wr (x.fst.fst = x.fst.fst) ∧ Wr (x.fst.snd.fst = x.fst.snd.fst) ∧
  Wr (x.fst.snd.snd.fst = x.fst.snd.snd.fst) ∧ Wr (x.fst.snd.snd.snd.snd.fst = x.fst.snd.snd.snd.snd.fst) ∧ Wr (x.fst.snd.snd.snd.snd.snd.fst = x.fst.snd.snd.snd.snd.snd.fst) ∧ Wr (x.fst.snd.snd.snd.fst =
  x.fst.snd.snd.snd.fst) ∧ Wr ((0 : Nat) ≤ (0 : Nat)) ∧ Wr ((fun (x : Int) => noneO Int) = fun (x : Int) => noneO Int) ∧ Wr ((0 : Int) = (0 : Int)) ∧ Wr ((0 : Int) = (0 : Int)) ∧ Wr ((0 : Int) = (0 : Int)) ∧ Wr
  (Bool.false = Bool.false) ∧ Wr (x.fst.fst = x.fst.fst) ∧ Wr (x.fst.snd.fst = x.fst.snd.fst) ∧ Wr (x.fst.snd.snd.fst = x.fst.snd.snd.fst) ∧ Wr (x.fst.snd.snd.snd.fst = x.fst.snd.snd.snd.fst) ∧ Wr
  (x.fst.snd.snd.snd.snd.fst = x.fst.snd.snd.snd.snd.fst) ∧ Wr (x.fst.snd.snd.snd.snd.snd.fst = x.fst.snd.snd.snd.snd.snd.fst)) ∧ ∀ (x_1 : WatchS), Wr (WatchInv x.fst.snd.snd.snd.fst x_1) → bcase (Decidable.decide (x_1.i
  < (↑(List.length x.fst.snd.snd.snd.fst) : Int))) (Wr ((0 : Int) ≤ x_1.i) ∧ Wr (x_1.i < (↑(List.length x.fst.snd.snd.snd.fst) : Int)) ∧ Wr (Bool.true = Bool.true) ∧ Wr (x_1.m.fst < Go.maxLen) ∧ Wr (WatchInv
  x.fst.snd.snd.snd.fst (WatchS.mk (IntKind.wrap IntKind.i64 (x_1.i + (1 : Int))) (x_1.m.fst + (1 : Nat), updF I64 I64 x_1.m.snd (List.getD x.fst.snd.snd.snd.fst (Int.toNat x_1.i) (0 : Int)) (IntKind.wrap IntKind.i64
  (Option.getD (x_1.m.snd (List.getD x.fst.snd.snd.snd.fst (Int.toNat x_1.i) (0 : Int))) (0 : Int) + (1 : Int)))))) ∧ Wr (List.length x.fst.snd.snd.snd.fst - Int.toNat (IntKind.wrap IntKind.i64 (x_1.i + (1 : Int))) <
  List.length x.fst.snd.snd.snd.fst - Int.toNat x_1.i) ∧ Wr (IntKind.wrap IntKind.i64 (x_1.i + (1 : Int)) = IntKind.wrap IntKind.i64 (x_1.i + (1 : Int))) ∧ Wr (x.fst.snd.snd.snd.fst = x.fst.snd.snd.snd.fst) ∧ Wr
  ((↑(List.length x.fst.snd.snd.snd.fst) : Int) = (↑(List.length x.fst.snd.snd.snd.fst) : Int)) ∧ Wr (x.fst.fst = x.fst.fst) ∧ Wr (x.fst.snd.fst = x.fst.snd.fst) ∧ Wr (x.fst.snd.snd.fst = x.fst.snd.snd.fst) ∧ Wr
  (x.fst.snd.snd.snd.snd.fst = x.fst.snd.snd.snd.snd.fst) ∧ Wr (x.fst.snd.snd.snd.snd.snd.fst = x.fst.snd.snd.snd.snd.snd.fst) ∧ Wr (x.fst.snd.snd.snd.fst = x.fst.snd.snd.snd.fst) ∧ Wr (x_1.m.fst + (1 : Nat) ≤ x_1.m.fst +
  (1 : Nat)) ∧ Wr (updF I64 I64 x_1.m.snd (List.getD x.fst.snd.snd.snd.fst (Int.toNat x_1.i) (0 : Int)) (IntKind.wrap IntKind.i64 (Option.getD (x_1.m.snd (List.getD x.fst.snd.snd.snd.fst (Int.toNat x_1.i) (0 : Int))) (0 :
  Int) + (1 : Int))) = updF I64 I64 x_1.m.snd (List.getD x.fst.snd.snd.snd.fst (Int.toNat x_1.i) (0 : Int)) (IntKind.wrap IntKind.i64 (Option.getD (x_1.m.snd (List.getD x.fst.snd.snd.snd.fst (Int.toNat x_1.i) (0 : Int)))
  (0 : Int) + (1 : Int)))) ∧ Wr ((0 : Int) = (0 : Int)) ∧ Wr ((0 : Int) = (0 : Int)) ∧ Wr ((0 : Int) = (0 : Int)) ∧ Wr (Bool.false = Bool.false) ∧ Wr (x.fst.fst = x.fst.fst) ∧ Wr (x.fst.snd.fst = x.fst.snd.fst) ∧ Wr
  (x.fst.snd.snd.fst = x.fst.snd.snd.fst) ∧ Wr (x.fst.snd.snd.snd.fst = x.fst.snd.snd.snd.fst) ∧ Wr (x.fst.snd.snd.snd.snd.fst = x.fst.snd.snd.snd.snd.fst) ∧ Wr (x.fst.snd.snd.snd.snd.snd.fst =
  x.fst.snd.snd.snd.snd.snd.fst)) ((Wr (LostInv (mkH x.fst.fst x.fst.snd.fst x.fst.snd.snd.fst x.fst.snd.snd.snd.fst x.fst.snd.snd.snd.snd.fst x.fst.snd.snd.snd.snd.snd.fst) x.snd.fst (LostS.mk (0 : Int) (mkH x.fst.fst
  x.fst.snd.fst x.fst.snd.snd.fst x.fst.snd.snd.snd.fst x.fst.snd.snd.snd.snd.fst x.fst.snd.snd.snd.snd.snd.fst) x_1.m)) ∧ Wr ((0 : Int) = (0 : Int)) ∧ Wr (x.snd.fst = x.snd.fst) ∧ Wr ((↑(List.length x.snd.fst) : Int) =
  (↑(List.length x.snd.fst) : Int)) ∧ Wr (x.fst.fst = hl (mkH x.fst.fst x.fst.snd.fst x.fst.snd.snd.fst x.fst.snd.snd.snd.fst x.fst.snd.snd.snd.snd.fst x.fst.snd.snd.snd.snd.snd.fst)) ∧ Wr (x.fst.snd.fst = hn (mkH
  x.fst.fst x.fst.snd.fst x.fst.snd.snd.fst x.fst.snd.snd.snd.fst x.fst.snd.snd.snd.snd.fst x.fst.snd.snd.snd.snd.snd.fst)) ∧ Wr (x.fst.snd.snd.fst = ho (mkH x.fst.fst x.fst.snd.fst x.fst.snd.snd.fst x.fst.snd.snd.snd.fst
  x.fst.snd.snd.snd.snd.fst x.fst.snd.snd.snd.snd.snd.fst)) ∧ Wr (x.fst.snd.snd.snd.snd.fst = hs (mkH x.fst.fst x.fst.snd.fst x.fst.snd.snd.fst x.fst.snd.snd.snd.fst x.fst.snd.snd.snd.snd.fst
  x.fst.snd.snd.snd.snd.snd.fst)) ∧ Wr (x.fst.snd.snd.snd.snd.snd.fst = hd (mkH x.fst.fst x.fst.snd.fst x.fst.snd.snd.fst x.fst.snd.snd.snd.fst x.fst.snd.snd.snd.snd.fst x.fst.snd.snd.snd.snd.snd.fst)) ∧ Wr
  (x.fst.snd.snd.snd.fst = hb (mkH x.fst.fst x.fst.snd.fst x.fst.snd.snd.fst x.fst.snd.snd.snd.fst x.fst.snd.snd.snd.snd.fst x.fst.snd.snd.snd.snd.snd.fst)) ∧ Wr (x_1.m.fst ≤ x_1.m.fst) ∧ Wr (x_1.m.snd = x_1.m.snd) ∧ Wr
  ((0 : Int) = (0 : Int)) ∧ Wr ((0 : Int) = (0 : Int)) ∧ Wr ((0 : Int) = (0 : Int)) ∧ Wr (Bool.false = Bool.false)) ∧ ∀ (x_2 : LostS), Wr (LostInv (mkH x.fst.fst x.fst.snd.fst x.fst.snd.snd.fst x.fst.snd.snd.snd.fst
  x.fst.snd.snd.snd.snd.fst x.fst.snd.snd.snd.snd.snd.fst) x.snd.fst x_2) → bcase (Decidable.decide (x_2.i < (↑(List.length x.snd.fst) : Int))) (Wr ((0 : Int) ≤ x_2.i) ∧ Wr (x_2.i < (↑(List.length x.snd.fst) : Int)) ∧ Wr
  (Bool.true = Bool.true) ∧ bcase (Decidable.decide (List.getD x.snd.fst (Int.toNat x_2.i) (0 : Int) < (0 : Int)) || Decidable.decide (List.getD x.snd.fst (Int.toNat x_2.i) (0 : Int) ≥ hn x_2.h) || Decidable.decide
  (Option.getD (x_2.m.snd (List.getD x.snd.fst (Int.toNat x_2.i) (0 : Int))) (0 : Int) > (0 : Int))) (Wr (LostInv (mkH x.fst.fst x.fst.snd.fst x.fst.snd.snd.fst x.fst.snd.snd.snd.fst x.fst.snd.snd.snd.snd.fst
  x.fst.snd.snd.snd.snd.snd.fst) x.snd.fst (LostS.mk (IntKind.wrap IntKind.i64 (x_2.i + (1 : Int))) (mkH (hl x_2.h) (hn x_2.h) (ho x_2.h) (hb x_2.h) (hs x_2.h) (hd x_2.h)) x_2.m)) ∧ Wr (List.length x.snd.fst - Int.toNat
  (IntKind.wrap IntKind.i64 (x_2.i + (1 : Int))) < List.length x.snd.fst - Int.toNat x_2.i) ∧ Wr (IntKind.wrap IntKind.i64 (x_2.i + (1 : Int)) = IntKind.wrap IntKind.i64 (x_2.i + (1 : Int))) ∧ Wr (x.snd.fst = x.snd.fst) ∧
  Wr ((↑(List.length x.snd.fst) : Int) = (↑(List.length x.snd.fst) : Int)) ∧ Wr (hl x_2.h = hl (mkH (hl x_2.h) (hn x_2.h) (ho x_2.h) (hb x_2.h) (hs x_2.h) (hd x_2.h))) ∧ Wr (hn x_2.h = hn (mkH (hl x_2.h) (hn x_2.h) (ho
  x_2.h) (hb x_2.h) (hs x_2.h) (hd x_2.h))) ∧ Wr (ho x_2.h = ho (mkH (hl x_2.h) (hn x_2.h) (ho x_2.h) (hb x_2.h) (hs x_2.h) (hd x_2.h))) ∧ Wr (hs x_2.h = hs (mkH (hl x_2.h) (hn x_2.h) (ho x_2.h) (hb x_2.h) (hs x_2.h) (hd
  x_2.h))) ∧ Wr (hd x_2.h = hd (mkH (hl x_2.h) (hn x_2.h) (ho x_2.h) (hb x_2.h) (hs x_2.h) (hd x_2.h))) ∧ Wr (hb x_2.h = hb (mkH (hl x_2.h) (hn x_2.h) (ho x_2.h) (hb x_2.h) (hs x_2.h) (hd x_2.h))) ∧ Wr (x_2.m.fst ≤
  x_2.m.fst) ∧ Wr (x_2.m.snd = x_2.m.snd) ∧ Wr ((0 : Int) = (0 : Int)) ∧ Wr ((0 : Int) = (0 : Int)) ∧ Wr ((0 : Int) = (0 : Int)) ∧ Wr (Bool.false = Bool.false)) (Wr (x_2.m.fst < Go.maxLen) ∧ Wr ((List.length (hb x_2.h) +
  List.length (List.getD x.snd.fst (Int.toNat x_2.i) (0 : Int) :: nilL Int)) * (8 : Nat) ≤ (140737488355328 : Nat)) ∧ bcase (Decidable.decide (List.getD x.snd.fst (Int.toNat x_2.i) (0 : Int) = IntKind.wrap IntKind.i64 (hn
  x_2.h - (1 : Int)))) (Wr ((!hd x_2.h) = Bool.true → Bool.true = Bool.true) ∧ Wr (LostInv (mkH x.fst.fst x.fst.snd.fst x.fst.snd.snd.fst x.fst.snd.snd.snd.fst x.fst.snd.snd.snd.snd.fst x.fst.snd.snd.snd.snd.snd.fst)
  x.snd.fst (LostS.mk (IntKind.wrap IntKind.i64 (x_2.i + (1 : Int))) (mkH (hl x_2.h) (hn x_2.h) (IntKind.wrap IntKind.i64 (ho x_2.h - (1 : Int))) (hb x_2.h ++ List.getD x.snd.fst (Int.toNat x_2.i) (0 : Int) :: nilL Int)
  (hs x_2.h) (hd x_2.h || leftB (hl x_2.h, hn x_2.h, IntKind.wrap IntKind.i64 (ho x_2.h - (1 : Int)), hb x_2.h ++ List.getD x.snd.fst (Int.toNat x_2.i) (0 : Int) :: nilL Int, hs x_2.h, hd x_2.h, ()))) (x_2.m.fst + (1 :
  Nat), updF I64 I64 x_2.m.snd (List.getD x.snd.fst (Int.toNat x_2.i) (0 : Int)) (IntKind.wrap IntKind.i64 (Option.getD (x_2.m.snd (List.getD x.snd.fst (Int.toNat x_2.i) (0 : Int))) (0 : Int) + (1 : Int)))))) ∧ Wr
  (List.length x.snd.fst - Int.toNat (IntKind.wrap IntKind.i64 (x_2.i + (1 : Int))) < List.length x.snd.fst - Int.toNat x_2.i) ∧ Wr (IntKind.wrap IntKind.i64 (x_2.i + (1 : Int)) = IntKind.wrap IntKind.i64 (x_2.i + (1 :
  Int))) ∧ Wr (x.snd.fst = x.snd.fst) ∧ Wr ((↑(List.length x.snd.fst) : Int) = (↑(List.length x.snd.fst) : Int)) ∧ Wr (hl x_2.h = hl (mkH (hl x_2.h) (hn x_2.h) (IntKind.wrap IntKind.i64 (ho x_2.h - (1 : Int))) (hb x_2.h
  ++ List.getD x.snd.fst (Int.toNat x_2.i) (0 : Int) :: nilL Int) (hs x_2.h) (hd x_2.h || leftB (hl x_2.h, hn x_2.h, IntKind.wrap IntKind.i64 (ho x_2.h - (1 : Int)), hb x_2.h ++ List.getD x.snd.fst (Int.toNat x_2.i) (0 :
  Int) :: nilL Int, hs x_2.h, hd x_2.h, ())))) ∧ Wr (hn x_2.h = hn (mkH (hl x_2.h) (hn x_2.h) (IntKind.wrap IntKind.i64 (ho x_2.h - (1 : Int))) (hb x_2.h ++ List.getD x.snd.fst (Int.toNat x_2.i) (0 : Int) :: nilL Int) (hs
  x_2.h) (hd x_2.h || leftB (hl x_2.h, hn x_2.h, IntKind.wrap IntKind.i64 (ho x_2.h - (1 : Int)), hb x_2.h ++ List.getD x.snd.fst (Int.toNat x_2.i) (0 : Int) :: nilL Int, hs x_2.h, hd x_2.h, ())))) ∧ Wr (IntKind.wrap
  IntKind.i64 (ho x_2.h - (1 : Int)) = ho (mkH (hl x_2.h) (hn x_2.h) (IntKind.wrap IntKind.i64 (ho x_2.h - (1 : Int))) (hb x_2.h ++ List.getD x.snd.fst (Int.toNat x_2.i) (0 : Int) :: nilL Int) (hs x_2.h) (hd x_2.h ||
  leftB (hl x_2.h, hn x_2.h, IntKind.wrap IntKind.i64 (ho x_2.h - (1 : Int)), hb x_2.h ++ List.getD x.snd.fst (Int.toNat x_2.i) (0 : Int) :: nilL Int, hs x_2.h, hd x_2.h, ())))) ∧ Wr (hs x_2.h = hs (mkH (hl x_2.h) (hn
  x_2.h) (IntKind.wrap IntKind.i64 (ho x_2.h - (1 : Int))) (hb x_2.h ++ List.getD x.snd.fst (Int.toNat x_2.i) (0 : Int) :: nilL Int) (hs x_2.h) (hd x_2.h || leftB (hl x_2.h, hn x_2.h, IntKind.wrap IntKind.i64 (ho x_2.h -
  (1 : Int)), hb x_2.h ++ List.getD x.snd.fst (Int.toNat x_2.i) (0 : Int) :: nilL Int, hs x_2.h, hd x_2.h, ())))) ∧ Wr ((hd x_2.h || leftB (hl x_2.h, hn x_2.h, IntKind.wrap IntKind.i64 (ho x_2.h - (1 : Int)), hb x_2.h ++
  List.getD x.snd.fst (Int.toNat x_2.i) (0 : Int) :: nilL Int, hs x_2.h, hd x_2.h, ())) = hd (mkH (hl x_2.h) (hn x_2.h) (IntKind.wrap IntKind.i64 (ho x_2.h - (1 : Int))) (hb x_2.h ++ List.getD x.snd.fst (Int.toNat x_2.i)
  (0 : Int) :: nilL Int) (hs x_2.h) (hd x_2.h || leftB (hl x_2.h, hn x_2.h, IntKind.wrap IntKind.i64 (ho x_2.h - (1 : Int)), hb x_2.h ++ List.getD x.snd.fst (Int.toNat x_2.i) (0 : Int) :: nilL Int, hs x_2.h, hd x_2.h,
  ())))) ∧ Wr (hb x_2.h ++ List.getD x.snd.fst (Int.toNat x_2.i) (0 : Int) :: nilL Int = hb (mkH (hl x_2.h) (hn x_2.h) (IntKind.wrap IntKind.i64 (ho x_2.h - (1 : Int))) (hb x_2.h ++ List.getD x.snd.fst (Int.toNat x_2.i)
  (0 : Int) :: nilL Int) (hs x_2.h) (hd x_2.h || leftB (hl x_2.h, hn x_2.h, IntKind.wrap IntKind.i64 (ho x_2.h - (1 : Int)), hb x_2.h ++ List.getD x.snd.fst (Int.toNat x_2.i) (0 : Int) :: nilL Int, hs x_2.h, hd x_2.h,
  ())))) ∧ Wr (x_2.m.fst + (1 : Nat) ≤ x_2.m.fst + (1 : Nat)) ∧ Wr (updF I64 I64 x_2.m.snd (List.getD x.snd.fst (Int.toNat x_2.i) (0 : Int)) (IntKind.wrap IntKind.i64 (Option.getD (x_2.m.snd (List.getD x.snd.fst
  (Int.toNat x_2.i) (0 : Int))) (0 : Int) + (1 : Int))) = updF I64 I64 x_2.m.snd (List.getD x.snd.fst (Int.toNat x_2.i) (0 : Int)) (IntKind.wrap IntKind.i64 (Option.getD (x_2.m.snd (List.getD x.snd.fst (Int.toNat x_2.i)
  (0 : Int))) (0 : Int) + (1 : Int)))) ∧ Wr ((0 : Int) = (0 : Int)) ∧ Wr ((0 : Int) = (0 : Int)) ∧ Wr ((0 : Int) = (0 : Int)) ∧ Wr (Bool.false = Bool.false)) (Wr (LostInv (mkH x.fst.fst x.fst.snd.fst x.fst.snd.snd.fst
  x.fst.snd.snd.snd.fst x.fst.snd.snd.snd.snd.fst x.fst.snd.snd.snd.snd.snd.fst) x.snd.fst (LostS.mk (IntKind.wrap IntKind.i64 (x_2.i + (1 : Int))) (mkH (hl x_2.h) (hn x_2.h) (IntKind.wrap IntKind.i64 (ho x_2.h - (1 :
  Int))) (hb x_2.h ++ List.getD x.snd.fst (Int.toNat x_2.i) (0 : Int) :: nilL Int) (hs x_2.h) (hd x_2.h)) (x_2.m.fst + (1 : Nat), updF I64 I64 x_2.m.snd (List.getD x.snd.fst (Int.toNat x_2.i) (0 : Int)) (IntKind.wrap
  IntKind.i64 (Option.getD (x_2.m.snd (List.getD x.snd.fst (Int.toNat x_2.i) (0 : Int))) (0 : Int) + (1 : Int)))))) ∧ Wr (List.length x.snd.fst - Int.toNat (IntKind.wrap IntKind.i64 (x_2.i + (1 : Int))) < List.length
  x.snd.fst - Int.toNat x_2.i) ∧ Wr (IntKind.wrap IntKind.i64 (x_2.i + (1 : Int)) = IntKind.wrap IntKind.i64 (x_2.i + (1 : Int))) ∧ Wr (x.snd.fst = x.snd.fst) ∧ Wr ((↑(List.length x.snd.fst) : Int) = (↑(List.length
  x.snd.fst) : Int)) ∧ Wr (hl x_2.h = hl (mkH (hl x_2.h) (hn x_2.h) (IntKind.wrap IntKind.i64 (ho x_2.h - (1 : Int))) (hb x_2.h ++ List.getD x.snd.fst (Int.toNat x_2.i) (0 : Int) :: nilL Int) (hs x_2.h) (hd x_2.h))) ∧ Wr
  (hn x_2.h = hn (mkH (hl x_2.h) (hn x_2.h) (IntKind.wrap IntKind.i64 (ho x_2.h - (1 : Int))) (hb x_2.h ++ List.getD x.snd.fst (Int.toNat x_2.i) (0 : Int) :: nilL Int) (hs x_2.h) (hd x_2.h))) ∧ Wr (IntKind.wrap
  IntKind.i64 (ho x_2.h - (1 : Int)) = ho (mkH (hl x_2.h) (hn x_2.h) (IntKind.wrap IntKind.i64 (ho x_2.h - (1 : Int))) (hb x_2.h ++ List.getD x.snd.fst (Int.toNat x_2.i) (0 : Int) :: nilL Int) (hs x_2.h) (hd x_2.h))) ∧ Wr
  (hs x_2.h = hs (mkH (hl x_2.h) (hn x_2.h) (IntKind.wrap IntKind.i64 (ho x_2.h - (1 : Int))) (hb x_2.h ++ List.getD x.snd.fst (Int.toNat x_2.i) (0 : Int) :: nilL Int) (hs x_2.h) (hd x_2.h))) ∧ Wr (hd x_2.h = hd (mkH (hl
  x_2.h) (hn x_2.h) (IntKind.wrap IntKind.i64 (ho x_2.h - (1 : Int))) (hb x_2.h ++ List.getD x.snd.fst (Int.toNat x_2.i) (0 : Int) :: nilL Int) (hs x_2.h) (hd x_2.h))) ∧ Wr (hb x_2.h ++ List.getD x.snd.fst (Int.toNat
  x_2.i) (0 : Int) :: nilL Int = hb (mkH (hl x_2.h) (hn x_2.h) (IntKind.wrap IntKind.i64 (ho x_2.h - (1 : Int))) (hb x_2.h ++ List.getD x.snd.fst (Int.toNat x_2.i) (0 : Int) :: nilL Int) (hs x_2.h) (hd x_2.h))) ∧ Wr
  (x_2.m.fst + (1 : Nat) ≤ x_2.m.fst + (1 : Nat)) ∧ Wr (updF I64 I64 x_2.m.snd (List.getD x.snd.fst (Int.toNat x_2.i) (0 : Int)) (IntKind.wrap IntKind.i64 (Option.getD (x_2.m.snd (List.getD x.snd.fst (Int.toNat x_2.i) (0
  : Int))) (0 : Int) + (1 : Int))) = updF I64 I64 x_2.m.snd (List.getD x.snd.fst (Int.toNat x_2.i) (0 : Int)) (IntKind.wrap IntKind.i64 (Option.getD (x_2.m.snd (List.getD x.snd.fst (Int.toNat x_2.i) (0 : Int))) (0 : Int)
  + (1 : Int)))) ∧ Wr ((0 : Int) = (0 : Int)) ∧ Wr ((0 : Int) = (0 : Int)) ∧ Wr ((0 : Int) = (0 : Int)) ∧ Wr (Bool.false = Bool.false)))) (((hl x_2.h, hn x_2.h, ho x_2.h, hb x_2.h, hs x_2.h, hd x_2.h, ()), ()) = (lostF
  x.fst x.snd.fst, ())))) := by kernel_rfl
theorem v39_eq : vcFn g39 300 Try.f39 cMay = ( ∀ (x : (List (Int × (Int × Int × Int × Int × Int × Int × Int × Int × Unit) × Int × Unit) × Int × Int × List Int × Int × Bool × Unit) × Unit), Wr (okH x.fst = Bool.true) → (Wr (MayInv x.fst.snd.fst x.fst.snd.snd.snd.fst
  (MayS.mk (0 : Int) (List.replicate (64 : Nat) Bool.false) ((0 : Nat), fun (x : Int) => noneO Int))) ∧ Wr ((0 : Int) = (0 : Int)) ∧ Wr ((0 : Nat) < List.length (List.replicate (64 : Nat) Bool.false)) ∧ Wr
  (x.fst.snd.snd.snd.fst = x.fst.snd.snd.snd.fst) ∧ Wr ((↑(List.length x.fst.snd.snd.snd.fst) : Int) = (↑(List.length x.fst.snd.snd.snd.fst) : Int)) ∧ Wr (List.replicate (64 : Nat) Bool.false = List.replicate (64 : Nat)
  Bool.false) ∧ Wr ((0 : Nat) ≤ (0 : Nat)) ∧ Wr ((fun (x : Int) => noneO Int) = fun (x : Int) => noneO Int) ∧ Wr (x.fst.fst = x.fst.fst) ∧ Wr (x.fst.snd.fst = x.fst.snd.fst) ∧ Wr (x.fst.snd.snd.fst = x.fst.snd.snd.fst) ∧
  Wr (x.fst.snd.snd.snd.fst = x.fst.snd.snd.snd.fst) ∧ Wr (x.fst.snd.snd.snd.snd.fst = x.fst.snd.snd.snd.snd.fst) ∧ Wr (x.fst.snd.snd.snd.snd.snd.fst = x.fst.snd.snd.snd.snd.snd.fst)) ∧ ∀ (x_1 : MayS), Wr (MayInv
  x.fst.snd.fst x.fst.snd.snd.snd.fst x_1) → bcase (Decidable.decide (x_1.i < (↑(List.length x.fst.snd.snd.snd.fst) : Int))) (Wr ((0 : Int) ≤ x_1.i) ∧ Wr (x_1.i < (↑(List.length x.fst.snd.snd.snd.fst) : Int)) ∧ Wr
  (Bool.true = Bool.true) ∧ Wr ((!(Decidable.decide (List.getD x.fst.snd.snd.snd.fst (Int.toNat x_1.i) (0 : Int) < (0 : Int)) || Decidable.decide (List.getD x.fst.snd.snd.snd.fst (Int.toNat x_1.i) (0 : Int) ≥
  x.fst.snd.fst) || Decidable.decide (Option.getD (x_1.m.snd (List.getD x.fst.snd.snd.snd.fst (Int.toNat x_1.i) (0 : Int))) (0 : Int) > (0 : Int))) && Decidable.decide (List.getD x.fst.snd.snd.snd.fst (Int.toNat x_1.i) (0
  : Int) < (64 : Int))) = Bool.true → List.length x_1.seen = (64 : Nat)) ∧ Wr ((!(Decidable.decide (List.getD x.fst.snd.snd.snd.fst (Int.toNat x_1.i) (0 : Int) < (0 : Int)) || Decidable.decide (List.getD
  x.fst.snd.snd.snd.fst (Int.toNat x_1.i) (0 : Int) ≥ x.fst.snd.fst) || Decidable.decide (Option.getD (x_1.m.snd (List.getD x.fst.snd.snd.snd.fst (Int.toNat x_1.i) (0 : Int))) (0 : Int) > (0 : Int))) && Decidable.decide
  (List.getD x.fst.snd.snd.snd.fst (Int.toNat x_1.i) (0 : Int) < (64 : Int))) = Bool.true → (0 : Int) ≤ List.getD x.fst.snd.snd.snd.fst (Int.toNat x_1.i) (0 : Int)) ∧ Wr ((!(Decidable.decide (List.getD
  x.fst.snd.snd.snd.fst (Int.toNat x_1.i) (0 : Int) < (0 : Int)) || Decidable.decide (List.getD x.fst.snd.snd.snd.fst (Int.toNat x_1.i) (0 : Int) ≥ x.fst.snd.fst) || Decidable.decide (Option.getD (x_1.m.snd (List.getD
  x.fst.snd.snd.snd.fst (Int.toNat x_1.i) (0 : Int))) (0 : Int) > (0 : Int))) && Decidable.decide (List.getD x.fst.snd.snd.snd.fst (Int.toNat x_1.i) (0 : Int) < (64 : Int))) = Bool.true → List.getD x.fst.snd.snd.snd.fst
  (Int.toNat x_1.i) (0 : Int) < (↑(64 : Nat) : Int)) ∧ bcase (Decidable.decide (List.getD x.fst.snd.snd.snd.fst (Int.toNat x_1.i) (0 : Int) < (0 : Int)) || Decidable.decide (List.getD x.fst.snd.snd.snd.fst (Int.toNat
  x_1.i) (0 : Int) ≥ x.fst.snd.fst) || Decidable.decide (Option.getD (x_1.m.snd (List.getD x.fst.snd.snd.snd.fst (Int.toNat x_1.i) (0 : Int))) (0 : Int) > (0 : Int)) || Decidable.decide (List.getD x.fst.snd.snd.snd.fst
  (Int.toNat x_1.i) (0 : Int) < (64 : Int)) && List.getD x_1.seen (Int.toNat (List.getD x.fst.snd.snd.snd.fst (Int.toNat x_1.i) (0 : Int))) Bool.false) ((Bool.false, ()) = (mayB x.fst, ())) (bcase (Decidable.decide
  (List.getD x.fst.snd.snd.snd.fst (Int.toNat x_1.i) (0 : Int) < (64 : Int))) (Wr (List.length x_1.seen = (64 : Nat)) ∧ Wr ((0 : Int) ≤ List.getD x.fst.snd.snd.snd.fst (Int.toNat x_1.i) (0 : Int)) ∧ Wr (List.getD
  x.fst.snd.snd.snd.fst (Int.toNat x_1.i) (0 : Int) < (↑(64 : Nat) : Int)) ∧ Wr (MayInv x.fst.snd.fst x.fst.snd.snd.snd.fst (MayS.mk (IntKind.wrap IntKind.i64 (x_1.i + (1 : Int))) (List.set x_1.seen (Int.toNat (List.getD
  x.fst.snd.snd.snd.fst (Int.toNat x_1.i) (0 : Int))) Bool.true) x_1.m)) ∧ Wr (List.length x.fst.snd.snd.snd.fst - Int.toNat (IntKind.wrap IntKind.i64 (x_1.i + (1 : Int))) < List.length x.fst.snd.snd.snd.fst - Int.toNat
  x_1.i) ∧ Wr (IntKind.wrap IntKind.i64 (x_1.i + (1 : Int)) = IntKind.wrap IntKind.i64 (x_1.i + (1 : Int))) ∧ Wr ((0 : Nat) < List.length (List.set x_1.seen (Int.toNat (List.getD x.fst.snd.snd.snd.fst (Int.toNat x_1.i) (0
  : Int))) Bool.true)) ∧ Wr (x.fst.snd.snd.snd.fst = x.fst.snd.snd.snd.fst) ∧ Wr ((↑(List.length x.fst.snd.snd.snd.fst) : Int) = (↑(List.length x.fst.snd.snd.snd.fst) : Int)) ∧ Wr (List.set x_1.seen (Int.toNat (List.getD
  x.fst.snd.snd.snd.fst (Int.toNat x_1.i) (0 : Int))) Bool.true = List.set x_1.seen (Int.toNat (List.getD x.fst.snd.snd.snd.fst (Int.toNat x_1.i) (0 : Int))) Bool.true) ∧ Wr (x_1.m.fst ≤ x_1.m.fst) ∧ Wr (x_1.m.snd =
  x_1.m.snd) ∧ Wr (x.fst.fst = x.fst.fst) ∧ Wr (x.fst.snd.fst = x.fst.snd.fst) ∧ Wr (x.fst.snd.snd.fst = x.fst.snd.snd.fst) ∧ Wr (x.fst.snd.snd.snd.fst = x.fst.snd.snd.snd.fst) ∧ Wr (x.fst.snd.snd.snd.snd.fst =
  x.fst.snd.snd.snd.snd.fst) ∧ Wr (x.fst.snd.snd.snd.snd.snd.fst = x.fst.snd.snd.snd.snd.snd.fst)) (Wr (x_1.m.fst < Go.maxLen) ∧ Wr (MayInv x.fst.snd.fst x.fst.snd.snd.snd.fst (MayS.mk (IntKind.wrap IntKind.i64 (x_1.i +
  (1 : Int))) x_1.seen (x_1.m.fst + (1 : Nat), updF I64 I64 x_1.m.snd (List.getD x.fst.snd.snd.snd.fst (Int.toNat x_1.i) (0 : Int)) (IntKind.wrap IntKind.i64 (Option.getD (x_1.m.snd (List.getD x.fst.snd.snd.snd.fst
  (Int.toNat x_1.i) (0 : Int))) (0 : Int) + (1 : Int)))))) ∧ Wr (List.length x.fst.snd.snd.snd.fst - Int.toNat (IntKind.wrap IntKind.i64 (x_1.i + (1 : Int))) < List.length x.fst.snd.snd.snd.fst - Int.toNat x_1.i) ∧ Wr
  (IntKind.wrap IntKind.i64 (x_1.i + (1 : Int)) = IntKind.wrap IntKind.i64 (x_1.i + (1 : Int))) ∧ Wr ((0 : Nat) < List.length x_1.seen) ∧ Wr (x.fst.snd.snd.snd.fst = x.fst.snd.snd.snd.fst) ∧ Wr ((↑(List.length
  x.fst.snd.snd.snd.fst) : Int) = (↑(List.length x.fst.snd.snd.snd.fst) : Int)) ∧ Wr (x_1.seen = x_1.seen) ∧ Wr (x_1.m.fst + (1 : Nat) ≤ x_1.m.fst + (1 : Nat)) ∧ Wr (updF I64 I64 x_1.m.snd (List.getD x.fst.snd.snd.snd.fst
  (Int.toNat x_1.i) (0 : Int)) (IntKind.wrap IntKind.i64 (Option.getD (x_1.m.snd (List.getD x.fst.snd.snd.snd.fst (Int.toNat x_1.i) (0 : Int))) (0 : Int) + (1 : Int))) = updF I64 I64 x_1.m.snd (List.getD
  x.fst.snd.snd.snd.fst (Int.toNat x_1.i) (0 : Int)) (IntKind.wrap IntKind.i64 (Option.getD (x_1.m.snd (List.getD x.fst.snd.snd.snd.fst (Int.toNat x_1.i) (0 : Int))) (0 : Int) + (1 : Int)))) ∧ Wr (x.fst.fst = x.fst.fst) ∧
  Wr (x.fst.snd.fst = x.fst.snd.fst) ∧ Wr (x.fst.snd.snd.fst = x.fst.snd.snd.fst) ∧ Wr (x.fst.snd.snd.snd.fst = x.fst.snd.snd.snd.fst) ∧ Wr (x.fst.snd.snd.snd.snd.fst = x.fst.snd.snd.snd.snd.fst) ∧ Wr
  (x.fst.snd.snd.snd.snd.snd.fst = x.fst.snd.snd.snd.snd.snd.fst)))) ((Decidable.decide (x.fst.snd.fst ≥ (0 : Int)) && Decidable.decide (x.fst.snd.fst ≤ (↑(List.length x.fst.fst) : Int)) && Decidable.decide
  (x.fst.snd.snd.fst = IntKind.wrap IntKind.i64 (x.fst.snd.fst - (↑(List.length x.fst.snd.snd.snd.fst) : Int))), ()) = (mayB x.fst, ()))) := by kernel_rfl
theorem v40_eq : vcFn g40 300 Try.f40 cOver = ( ∀ (x : (List (Int × (Int × Int × Int × Int × Int × Int × Int × Int × Unit) × Int × Unit) × Int × Int × List Int × Int × Bool × Unit) × Unit), Wr (okH x.fst = Bool.true) → (Decidable.decide (x.fst.snd.fst ≥ (↑(List.length
  x.fst.fst) : Int)) && Decidable.decide (x.fst.snd.snd.fst < (1 : Int)), ()) = (overB x.fst, ())) := by kernel_rfl
theorem v42_eq : vcFn g42 300 Try.f42 cFailed = ( ∀ (x : (List (Int × (Int × Int × Int × Int × Int × Int × Int × Int × Unit) × Int × Unit) × Int × Int × List Int × Int × Bool × Unit) × Unit), Wr (okH x.fst = Bool.true) → (Wr (FailInv x.fst ((0 : Int), nilL (Int × (Int ×
  Int × Int × Int × Int × Int × Int × Int × Unit) × Int × Unit))) ∧ Wr ((0 : Int) = (0 : Int)) ∧ Wr (x.fst.snd.snd.snd.fst = x.fst.snd.snd.snd.fst) ∧ Wr ((↑(List.length x.fst.snd.snd.snd.fst) : Int) = (↑(List.length
  x.fst.snd.snd.snd.fst) : Int)) ∧ Wr (nilL (Int × (Int × Int × Int × Int × Int × Int × Int × Int × Unit) × Int × Unit) = nilL (Int × (Int × Int × Int × Int × Int × Int × Int × Int × Unit) × Int × Unit)) ∧ Wr (x.fst.fst =
  x.fst.fst) ∧ Wr (x.fst.snd.fst = x.fst.snd.fst) ∧ Wr (x.fst.snd.snd.fst = x.fst.snd.snd.fst) ∧ Wr (x.fst.snd.snd.snd.fst = x.fst.snd.snd.snd.fst) ∧ Wr (x.fst.snd.snd.snd.snd.fst = x.fst.snd.snd.snd.snd.fst) ∧ Wr
  (x.fst.snd.snd.snd.snd.snd.fst = x.fst.snd.snd.snd.snd.snd.fst)) ∧ ∀ (x_1 : Int × List (Int × (Int × Int × Int × Int × Int × Int × Int × Int × Unit) × Int × Unit)), Wr (FailInv x.fst x_1) → bcase (Decidable.decide
  (x_1.fst < (↑(List.length x.fst.snd.snd.snd.fst) : Int))) (Wr ((0 : Int) ≤ x_1.fst) ∧ Wr (x_1.fst < (↑(List.length x.fst.snd.snd.snd.fst) : Int)) ∧ Wr (Bool.true = Bool.true) ∧ bcase (Decidable.decide (List.getD
  x.fst.snd.snd.snd.fst (Int.toNat x_1.fst) (0 : Int) ≥ (0 : Int)) && Decidable.decide (List.getD x.fst.snd.snd.snd.fst (Int.toNat x_1.fst) (0 : Int) < (↑(List.length x.fst.fst) : Int))) (Wr ((0 : Int) ≤ List.getD
  x.fst.snd.snd.snd.fst (Int.toNat x_1.fst) (0 : Int)) ∧ Wr (List.getD x.fst.snd.snd.snd.fst (Int.toNat x_1.fst) (0 : Int) < (↑(List.length x.fst.fst) : Int)) ∧ Wr (Bool.true = Bool.true) ∧ Wr ((List.length x_1.snd +
  List.length (List.getD x.fst.fst (Int.toNat (List.getD x.fst.snd.snd.snd.fst (Int.toNat x_1.fst) (0 : Int))) (Ty.zero addrT) :: nilL (Int × (Int × Int × Int × Int × Int × Int × Int × Int × Unit) × Int × Unit))) * (32 :
  Nat) ≤ (140737488355328 : Nat)) ∧ Wr (FailInv x.fst (IntKind.wrap IntKind.i64 (x_1.fst + (1 : Int)), x_1.snd ++ List.getD x.fst.fst (Int.toNat (List.getD x.fst.snd.snd.snd.fst (Int.toNat x_1.fst) (0 : Int))) (Ty.zero
  addrT) :: nilL (Int × (Int × Int × Int × Int × Int × Int × Int × Int × Unit) × Int × Unit))) ∧ Wr (List.length x.fst.snd.snd.snd.fst - Int.toNat (IntKind.wrap IntKind.i64 (x_1.fst + (1 : Int))) < List.length
  x.fst.snd.snd.snd.fst - Int.toNat x_1.fst) ∧ Wr (IntKind.wrap IntKind.i64 (x_1.fst + (1 : Int)) = IntKind.wrap IntKind.i64 (x_1.fst + (1 : Int))) ∧ Wr (x.fst.snd.snd.snd.fst = x.fst.snd.snd.snd.fst) ∧ Wr ((↑(List.length
  x.fst.snd.snd.snd.fst) : Int) = (↑(List.length x.fst.snd.snd.snd.fst) : Int)) ∧ Wr (x_1.snd ++ List.getD x.fst.fst (Int.toNat (List.getD x.fst.snd.snd.snd.fst (Int.toNat x_1.fst) (0 : Int))) (Ty.zero addrT) :: nilL (Int
  × (Int × Int × Int × Int × Int × Int × Int × Int × Unit) × Int × Unit) = x_1.snd ++ List.getD x.fst.fst (Int.toNat (List.getD x.fst.snd.snd.snd.fst (Int.toNat x_1.fst) (0 : Int))) (Ty.zero addrT) :: nilL (Int × (Int ×
  Int × Int × Int × Int × Int × Int × Int × Unit) × Int × Unit)) ∧ Wr (x.fst.fst = x.fst.fst) ∧ Wr (x.fst.snd.fst = x.fst.snd.fst) ∧ Wr (x.fst.snd.snd.fst = x.fst.snd.snd.fst) ∧ Wr (x.fst.snd.snd.snd.fst =
  x.fst.snd.snd.snd.fst) ∧ Wr (x.fst.snd.snd.snd.snd.fst = x.fst.snd.snd.snd.snd.fst) ∧ Wr (x.fst.snd.snd.snd.snd.snd.fst = x.fst.snd.snd.snd.snd.snd.fst)) (Wr (FailInv x.fst (IntKind.wrap IntKind.i64 (x_1.fst + (1 :
  Int)), x_1.snd)) ∧ Wr (List.length x.fst.snd.snd.snd.fst - Int.toNat (IntKind.wrap IntKind.i64 (x_1.fst + (1 : Int))) < List.length x.fst.snd.snd.snd.fst - Int.toNat x_1.fst) ∧ Wr (IntKind.wrap IntKind.i64 (x_1.fst + (1
  : Int)) = IntKind.wrap IntKind.i64 (x_1.fst + (1 : Int))) ∧ Wr (x.fst.snd.snd.snd.fst = x.fst.snd.snd.snd.fst) ∧ Wr ((↑(List.length x.fst.snd.snd.snd.fst) : Int) = (↑(List.length x.fst.snd.snd.snd.fst) : Int)) ∧ Wr
  (x_1.snd = x_1.snd) ∧ Wr (x.fst.fst = x.fst.fst) ∧ Wr (x.fst.snd.fst = x.fst.snd.fst) ∧ Wr (x.fst.snd.snd.fst = x.fst.snd.snd.fst) ∧ Wr (x.fst.snd.snd.snd.fst = x.fst.snd.snd.snd.fst) ∧ Wr (x.fst.snd.snd.snd.snd.fst =
  x.fst.snd.snd.snd.snd.fst) ∧ Wr (x.fst.snd.snd.snd.snd.snd.fst = x.fst.snd.snd.snd.snd.snd.fst))) ((x_1.snd, ()) = (failedF x.fst, ()))) := by kernel_rfl
theorem v9_eq : vcFn g9 300 Try.f9 cPaces = ( ∀ (x : List (Int × (Int × Int × Int × Int × Int × Int × Int × Int × Unit) × Int × Unit) × List (Int × Int × Int × Unit) × Int × Unit), Wr True → bcase (Decidable.decide ((↑(List.length x.fst) : Int) > (40 : Int)) ||
  Decidable.decide ((↑(List.length x.snd.fst) : Int) > (100 : Int)) || Decidable.decide (x.snd.snd.fst < (0 : Int)) || Decidable.decide (x.snd.snd.fst > (1000 : Int))) (Wr True ∧ (Bool.true, ()) = (Bool.true, ())) (Wr
  (Decidable.decide (List.length x.fst ≤ (1000000 : Nat)) = Bool.true) ∧ Wr ((0 : Int) ≤ (↑(List.length x.fst) : Int)) ∧ Wr ((↑(List.length x.fst) : Int) ≤ (↑(List.length x.fst) : Int)) ∧ Wr ((↑(1 : Nat) : Int) *
  (↑(List.length x.fst) : Int) ≤ (281474976710656 : Int)) ∧ Wr ((↑(List.length x.fst) : Int) ≤ (9223372036854775807 : Int)) ∧ (Wr (pLoop x.fst x.snd.fst x.snd.snd.fst (PS.mk (0 : Int) (0 : Int) (0 : Int) (0 : Int) (0 :
  Int) Bool.true (List.replicate (Int.toNat (↑(List.length x.fst) : Int)) Bool.false) (begin x.fst))) ∧ Wr ((0 : Int) = (0 : Int)) ∧ Wr ((0 : Int) = (0 : Int)) ∧ Wr ((0 : Int) = (0 : Int)) ∧ Wr (Bool.true = Bool.true) ∧
  Wr ((0 : Int) = (0 : Int)) ∧ Wr ((0 : Int) = (0 : Int)) ∧ Wr (x.fst = x.fst) ∧ Wr (x.snd.fst = x.snd.fst) ∧ Wr (x.snd.snd.fst = x.snd.snd.fst) ∧ Wr ((begin x.fst).fst = hl (begin x.fst)) ∧ Wr ((begin x.fst).snd.fst = hn
  (begin x.fst)) ∧ Wr ((begin x.fst).snd.snd.fst = ho (begin x.fst)) ∧ Wr ((begin x.fst).snd.snd.snd.fst = hb (begin x.fst)) ∧ Wr ((begin x.fst).snd.snd.snd.snd.fst = hs (begin x.fst)) ∧ Wr ((begin
  x.fst).snd.snd.snd.snd.snd.fst = hd (begin x.fst)) ∧ Wr (List.replicate (Int.toNat (↑(List.length x.fst) : Int)) Bool.false = List.replicate (Int.toNat (↑(List.length x.fst) : Int)) Bool.false)) ∧ ∀ (x_1 : PS), Wr
  (pLoop x.fst x.snd.fst x.snd.snd.fst x_1) → bcase (Decidable.decide (x_1.i < (↑(List.length x.snd.fst) : Int))) (Wr ((0 : Int) ≤ x_1.i) ∧ Wr (x_1.i < (↑(List.length x.snd.fst) : Int)) ∧ Wr (Bool.true = Bool.true) ∧ Wr
  (Bool.true = Bool.true) ∧ Wr ((!Decidable.decide ((List.getD x.snd.fst (Int.toNat x_1.i) (Ty.zero stepT)).snd.snd.fst < (0 : Int))) = Bool.true → (0 : Int) ≤ x_1.i) ∧ Wr ((!Decidable.decide ((List.getD x.snd.fst
  (Int.toNat x_1.i) (Ty.zero stepT)).snd.snd.fst < (0 : Int))) = Bool.true → x_1.i < (↑(List.length x.snd.fst) : Int)) ∧ Wr ((!Decidable.decide ((List.getD x.snd.fst (Int.toNat x_1.i) (Ty.zero stepT)).snd.snd.fst < (0 :
  Int))) = Bool.true → Bool.true = Bool.true) ∧ Wr ((!Decidable.decide ((List.getD x.snd.fst (Int.toNat x_1.i) (Ty.zero stepT)).snd.snd.fst < (0 : Int))) = Bool.true → Bool.true = Bool.true) ∧ bcase (Decidable.decide
  ((List.getD x.snd.fst (Int.toNat x_1.i) (Ty.zero stepT)).snd.snd.fst < (0 : Int)) || Decidable.decide ((List.getD x.snd.fst (Int.toNat x_1.i) (Ty.zero stepT)).snd.snd.fst > (1000 : Int))) (Wr True ∧ (Bool.true, ()) =
  (Bool.true, ())) (Wr ((0 : Int) ≤ x_1.i) ∧ Wr (x_1.i < (↑(List.length x.snd.fst) : Int)) ∧ Wr (Bool.true = Bool.true) ∧ Wr (Bool.true = Bool.true) ∧ Wr (okH (hl x_1.h, hn x_1.h, ho x_1.h, hb x_1.h, hs x_1.h, hd x_1.h,
  ()) = Bool.true) ∧ bcase (!readyB (hl x_1.h, hn x_1.h, ho x_1.h, hb x_1.h, hs x_1.h, hd x_1.h, ()) x.snd.snd.fst (IntKind.wrap IntKind.i64 (x_1.now + (List.getD x.snd.fst (Int.toNat x_1.i) (Ty.zero stepT)).snd.snd.fst))
  == (Decidable.decide (x_1.started < (↑(List.length x.fst) : Int)) && (x_1.due || Decidable.decide (x_1.started > (0 : Int)) && Decidable.decide (IntKind.wrap IntKind.i64 (x_1.now + (List.getD x.snd.fst (Int.toNat x_1.i)
  (Ty.zero stepT)).snd.snd.fst) ≥ IntKind.wrap IntKind.i64 (x_1.since + x.snd.snd.fst))))) ((Bool.false, ()) = (Bool.true, ())) (Wr ((0 : Int) ≤ x_1.i) ∧ Wr (x_1.i < (↑(List.length x.snd.fst) : Int)) ∧ Wr (Bool.true =
  Bool.true) ∧ Wr (Bool.true = Bool.true) ∧ (Wr ((0 : Int) ≤ x_1.i) ∧ Wr (x_1.i < (↑(List.length x.snd.fst) : Int)) ∧ Wr (Bool.true = Bool.true) ∧ Wr (Bool.true = Bool.true) ∧ bcase (Decidable.decide ((List.getD x.snd.fst
  (Int.toNat x_1.i) (Ty.zero stepT)).fst = (0 : Int))) (bcase (!(Decidable.decide (x_1.started < (↑(List.length x.fst) : Int)) && (x_1.due || Decidable.decide (x_1.started > (0 : Int)) && Decidable.decide (IntKind.wrap
  IntKind.i64 (x_1.now + (List.getD x.snd.fst (Int.toNat x_1.i) (Ty.zero stepT)).snd.snd.fst) ≥ IntKind.wrap IntKind.i64 (x_1.since + x.snd.snd.fst))))) (Wr (pLoop x.fst x.snd.fst x.snd.snd.fst (PS.mk (IntKind.wrap
  IntKind.i64 (x_1.i + (1 : Int))) (IntKind.wrap IntKind.i64 (x_1.now + (List.getD x.snd.fst (Int.toNat x_1.i) (Ty.zero stepT)).snd.snd.fst)) x_1.started x_1.since x_1.out x_1.due x_1.gone (hl x_1.h, hn x_1.h, ho x_1.h,
  hb x_1.h, hs x_1.h, hd x_1.h, ()))) ∧ Wr (List.length x.snd.fst - Int.toNat (IntKind.wrap IntKind.i64 (x_1.i + (1 : Int))) < List.length x.snd.fst - Int.toNat x_1.i) ∧ Wr (IntKind.wrap IntKind.i64 (x_1.now + (List.getD
  x.snd.fst (Int.toNat x_1.i) (Ty.zero stepT)).snd.snd.fst) = IntKind.wrap IntKind.i64 (x_1.now + (List.getD x.snd.fst (Int.toNat x_1.i) (Ty.zero stepT)).snd.snd.fst)) ∧ Wr (x_1.started = x_1.started) ∧ Wr (x_1.since =
  x_1.since) ∧ Wr (x_1.due = x_1.due) ∧ Wr (x_1.out = x_1.out) ∧ Wr (IntKind.wrap IntKind.i64 (x_1.i + (1 : Int)) = IntKind.wrap IntKind.i64 (x_1.i + (1 : Int))) ∧ Wr (x.fst = x.fst) ∧ Wr (x.snd.fst = x.snd.fst) ∧ Wr
  (x.snd.snd.fst = x.snd.snd.fst) ∧ Wr (hl x_1.h = hl (hl x_1.h, hn x_1.h, ho x_1.h, hb x_1.h, hs x_1.h, hd x_1.h, ())) ∧ Wr (hn x_1.h = hn (hl x_1.h, hn x_1.h, ho x_1.h, hb x_1.h, hs x_1.h, hd x_1.h, ())) ∧ Wr (ho x_1.h
  = ho (hl x_1.h, hn x_1.h, ho x_1.h, hb x_1.h, hs x_1.h, hd x_1.h, ())) ∧ Wr (hb x_1.h = hb (hl x_1.h, hn x_1.h, ho x_1.h, hb x_1.h, hs x_1.h, hd x_1.h, ())) ∧ Wr (hs x_1.h = hs (hl x_1.h, hn x_1.h, ho x_1.h, hb x_1.h,
  hs x_1.h, hd x_1.h, ())) ∧ Wr (hd x_1.h = hd (hl x_1.h, hn x_1.h, ho x_1.h, hb x_1.h, hs x_1.h, hd x_1.h, ())) ∧ Wr (x_1.gone = x_1.gone)) (Wr (okH (hl x_1.h, hn x_1.h, ho x_1.h, hb x_1.h, hs x_1.h, hd x_1.h, ()) =
  Bool.true) ∧ Wr ((!(!Decidable.decide ((start (hl x_1.h, hn x_1.h, ho x_1.h, hb x_1.h, hs x_1.h, hd x_1.h, ()) (IntKind.wrap IntKind.i64 (x_1.now + (List.getD x.snd.fst (Int.toNat x_1.i) (Ty.zero
  stepT)).snd.snd.fst))).snd.snd.snd.fst = (0 : Int)) || !Decidable.decide ((start (hl x_1.h, hn x_1.h, ho x_1.h, hb x_1.h, hs x_1.h, hd x_1.h, ()) (IntKind.wrap IntKind.i64 (x_1.now + (List.getD x.snd.fst (Int.toNat
  x_1.i) (Ty.zero stepT)).snd.snd.fst))).snd.fst = x_1.started))) = Bool.true → (0 : Int) ≤ x_1.started) ∧ Wr ((!(!Decidable.decide ((start (hl x_1.h, hn x_1.h, ho x_1.h, hb x_1.h, hs x_1.h, hd x_1.h, ()) (IntKind.wrap
  IntKind.i64 (x_1.now + (List.getD x.snd.fst (Int.toNat x_1.i) (Ty.zero stepT)).snd.snd.fst))).snd.snd.snd.fst = (0 : Int)) || !Decidable.decide ((start (hl x_1.h, hn x_1.h, ho x_1.h, hb x_1.h, hs x_1.h, hd x_1.h, ())
  (IntKind.wrap IntKind.i64 (x_1.now + (List.getD x.snd.fst (Int.toNat x_1.i) (Ty.zero stepT)).snd.snd.fst))).snd.fst = x_1.started))) = Bool.true → x_1.started < (↑(List.length x.fst) : Int)) ∧ Wr ((!(!Decidable.decide
  ((start (hl x_1.h, hn x_1.h, ho x_1.h, hb x_1.h, hs x_1.h, hd x_1.h, ()) (IntKind.wrap IntKind.i64 (x_1.now + (List.getD x.snd.fst (Int.toNat x_1.i) (Ty.zero stepT)).snd.snd.fst))).snd.snd.snd.fst = (0 : Int)) ||
  !Decidable.decide ((start (hl x_1.h, hn x_1.h, ho x_1.h, hb x_1.h, hs x_1.h, hd x_1.h, ()) (IntKind.wrap IntKind.i64 (x_1.now + (List.getD x.snd.fst (Int.toNat x_1.i) (Ty.zero stepT)).snd.snd.fst))).snd.fst =
  x_1.started))) = Bool.true → Bool.true = Bool.true) ∧ bcase (!Decidable.decide ((start (hl x_1.h, hn x_1.h, ho x_1.h, hb x_1.h, hs x_1.h, hd x_1.h, ()) (IntKind.wrap IntKind.i64 (x_1.now + (List.getD x.snd.fst
  (Int.toNat x_1.i) (Ty.zero stepT)).snd.snd.fst))).snd.snd.snd.fst = (0 : Int)) || !Decidable.decide ((start (hl x_1.h, hn x_1.h, ho x_1.h, hb x_1.h, hs x_1.h, hd x_1.h, ()) (IntKind.wrap IntKind.i64 (x_1.now +
  (List.getD x.snd.fst (Int.toNat x_1.i) (Ty.zero stepT)).snd.snd.fst))).snd.fst = x_1.started) || !Ty.eqb (Ty.cons (Ty.int IntKind.i8) (Ty.cons (Ty.arr (8 : Nat) (Ty.int IntKind.u16)) (Ty.cons (Ty.int IntKind.i64)
  Ty.unit))) (start (hl x_1.h, hn x_1.h, ho x_1.h, hb x_1.h, hs x_1.h, hd x_1.h, ()) (IntKind.wrap IntKind.i64 (x_1.now + (List.getD x.snd.fst (Int.toNat x_1.i) (Ty.zero stepT)).snd.snd.fst))).snd.snd.fst (List.getD x.fst
  (Int.toNat x_1.started) (Ty.zero addrT))) ((Bool.false, ()) = (Bool.true, ())) (Wr (pCut x.fst x.snd.fst x.snd.snd.fst (PS.mk x_1.i (IntKind.wrap IntKind.i64 (x_1.now + (List.getD x.snd.fst (Int.toNat x_1.i) (Ty.zero
  stepT)).snd.snd.fst)) (IntKind.wrap IntKind.i64 (x_1.started + (1 : Int))) (IntKind.wrap IntKind.i64 (x_1.now + (List.getD x.snd.fst (Int.toNat x_1.i) (Ty.zero stepT)).snd.snd.fst)) (IntKind.wrap IntKind.i64 (x_1.out +
  (1 : Int))) Bool.false x_1.gone (start (hl x_1.h, hn x_1.h, ho x_1.h, hb x_1.h, hs x_1.h, hd x_1.h, ()) (IntKind.wrap IntKind.i64 (x_1.now + (List.getD x.snd.fst (Int.toNat x_1.i) (Ty.zero stepT)).snd.snd.fst))).fst) ∧
  x_1.i = x_1.i) ∧ Wr (IntKind.wrap IntKind.i64 (x_1.now + (List.getD x.snd.fst (Int.toNat x_1.i) (Ty.zero stepT)).snd.snd.fst) = IntKind.wrap IntKind.i64 (x_1.now + (List.getD x.snd.fst (Int.toNat x_1.i) (Ty.zero
  stepT)).snd.snd.fst)) ∧ Wr (IntKind.wrap IntKind.i64 (x_1.started + (1 : Int)) = IntKind.wrap IntKind.i64 (x_1.started + (1 : Int))) ∧ Wr (IntKind.wrap IntKind.i64 (x_1.now + (List.getD x.snd.fst (Int.toNat x_1.i)
  (Ty.zero stepT)).snd.snd.fst) = IntKind.wrap IntKind.i64 (x_1.now + (List.getD x.snd.fst (Int.toNat x_1.i) (Ty.zero stepT)).snd.snd.fst)) ∧ Wr (Bool.false = Bool.false) ∧ Wr (IntKind.wrap IntKind.i64 (x_1.out + (1 :
  Int)) = IntKind.wrap IntKind.i64 (x_1.out + (1 : Int))) ∧ Wr (x_1.i = x_1.i) ∧ Wr (x.fst = x.fst) ∧ Wr (x.snd.fst = x.snd.fst) ∧ Wr (x.snd.snd.fst = x.snd.snd.fst) ∧ Wr ((start (hl x_1.h, hn x_1.h, ho x_1.h, hb x_1.h,
  hs x_1.h, hd x_1.h, ()) (IntKind.wrap IntKind.i64 (x_1.now + (List.getD x.snd.fst (Int.toNat x_1.i) (Ty.zero stepT)).snd.snd.fst))).fst.fst = hl (start (hl x_1.h, hn x_1.h, ho x_1.h, hb x_1.h, hs x_1.h, hd x_1.h, ())
  (IntKind.wrap IntKind.i64 (x_1.now + (List.getD x.snd.fst (Int.toNat x_1.i) (Ty.zero stepT)).snd.snd.fst))).fst) ∧ Wr ((start (hl x_1.h, hn x_1.h, ho x_1.h, hb x_1.h, hs x_1.h, hd x_1.h, ()) (IntKind.wrap IntKind.i64
  (x_1.now + (List.getD x.snd.fst (Int.toNat x_1.i) (Ty.zero stepT)).snd.snd.fst))).fst.snd.fst = hn (start (hl x_1.h, hn x_1.h, ho x_1.h, hb x_1.h, hs x_1.h, hd x_1.h, ()) (IntKind.wrap IntKind.i64 (x_1.now + (List.getD
  x.snd.fst (Int.toNat x_1.i) (Ty.zero stepT)).snd.snd.fst))).fst) ∧ Wr ((start (hl x_1.h, hn x_1.h, ho x_1.h, hb x_1.h, hs x_1.h, hd x_1.h, ()) (IntKind.wrap IntKind.i64 (x_1.now + (List.getD x.snd.fst (Int.toNat x_1.i)
  (Ty.zero stepT)).snd.snd.fst))).fst.snd.snd.fst = ho (start (hl x_1.h, hn x_1.h, ho x_1.h, hb x_1.h, hs x_1.h, hd x_1.h, ()) (IntKind.wrap IntKind.i64 (x_1.now + (List.getD x.snd.fst (Int.toNat x_1.i) (Ty.zero
  stepT)).snd.snd.fst))).fst) ∧ Wr ((start (hl x_1.h, hn x_1.h, ho x_1.h, hb x_1.h, hs x_1.h, hd x_1.h, ()) (IntKind.wrap IntKind.i64 (x_1.now + (List.getD x.snd.fst (Int.toNat x_1.i) (Ty.zero
  stepT)).snd.snd.fst))).fst.snd.snd.snd.fst = hb (start (hl x_1.h, hn x_1.h, ho x_1.h, hb x_1.h, hs x_1.h, hd x_1.h, ()) (IntKind.wrap IntKind.i64 (x_1.now + (List.getD x.snd.fst (Int.toNat x_1.i) (Ty.zero
  stepT)).snd.snd.fst))).fst) ∧ Wr ((start (hl x_1.h, hn x_1.h, ho x_1.h, hb x_1.h, hs x_1.h, hd x_1.h, ()) (IntKind.wrap IntKind.i64 (x_1.now + (List.getD x.snd.fst (Int.toNat x_1.i) (Ty.zero
  stepT)).snd.snd.fst))).fst.snd.snd.snd.snd.fst = hs (start (hl x_1.h, hn x_1.h, ho x_1.h, hb x_1.h, hs x_1.h, hd x_1.h, ()) (IntKind.wrap IntKind.i64 (x_1.now + (List.getD x.snd.fst (Int.toNat x_1.i) (Ty.zero
  stepT)).snd.snd.fst))).fst) ∧ Wr ((start (hl x_1.h, hn x_1.h, ho x_1.h, hb x_1.h, hs x_1.h, hd x_1.h, ()) (IntKind.wrap IntKind.i64 (x_1.now + (List.getD x.snd.fst (Int.toNat x_1.i) (Ty.zero
  stepT)).snd.snd.fst))).fst.snd.snd.snd.snd.snd.fst = hd (start (hl x_1.h, hn x_1.h, ho x_1.h, hb x_1.h, hs x_1.h, hd x_1.h, ()) (IntKind.wrap IntKind.i64 (x_1.now + (List.getD x.snd.fst (Int.toNat x_1.i) (Ty.zero
  stepT)).snd.snd.fst))).fst) ∧ Wr (x_1.gone = x_1.gone)))) (bcase (Decidable.decide ((List.getD x.snd.fst (Int.toNat x_1.i) (Ty.zero stepT)).fst = (1 : Int))) (Wr (okLost (hl x_1.h, hn x_1.h, ho x_1.h, hb x_1.h, hs
  x_1.h, hd x_1.h, ()) ((List.getD x.snd.fst (Int.toNat x_1.i) (Ty.zero stepT)).snd.fst :: nilL Int) = Bool.true) ∧ Wr ((!(Decidable.decide ((List.getD x.snd.fst (Int.toNat x_1.i) (Ty.zero stepT)).snd.fst < (0 : Int)) ||
  Decidable.decide ((List.getD x.snd.fst (Int.toNat x_1.i) (Ty.zero stepT)).snd.fst ≥ x_1.started))) = Bool.true → (0 : Int) ≤ (List.getD x.snd.fst (Int.toNat x_1.i) (Ty.zero stepT)).snd.fst) ∧ Wr ((!(Decidable.decide
  ((List.getD x.snd.fst (Int.toNat x_1.i) (Ty.zero stepT)).snd.fst < (0 : Int)) || Decidable.decide ((List.getD x.snd.fst (Int.toNat x_1.i) (Ty.zero stepT)).snd.fst ≥ x_1.started))) = Bool.true → (List.getD x.snd.fst
  (Int.toNat x_1.i) (Ty.zero stepT)).snd.fst < (↑(List.length x_1.gone) : Int)) ∧ bcase (Decidable.decide ((List.getD x.snd.fst (Int.toNat x_1.i) (Ty.zero stepT)).snd.fst < (0 : Int)) || Decidable.decide ((List.getD
  x.snd.fst (Int.toNat x_1.i) (Ty.zero stepT)).snd.fst ≥ x_1.started) || List.getD x_1.gone (Int.toNat (List.getD x.snd.fst (Int.toNat x_1.i) (Ty.zero stepT)).snd.fst) Bool.false) (Wr (pCut x.fst x.snd.fst x.snd.snd.fst
  (PS.mk x_1.i (IntKind.wrap IntKind.i64 (x_1.now + (List.getD x.snd.fst (Int.toNat x_1.i) (Ty.zero stepT)).snd.snd.fst)) x_1.started x_1.since x_1.out x_1.due x_1.gone (lostF (hl x_1.h, hn x_1.h, ho x_1.h, hb x_1.h, hs
  x_1.h, hd x_1.h, ()) ((List.getD x.snd.fst (Int.toNat x_1.i) (Ty.zero stepT)).snd.fst :: nilL Int))) ∧ x_1.i = x_1.i) ∧ Wr (IntKind.wrap IntKind.i64 (x_1.now + (List.getD x.snd.fst (Int.toNat x_1.i) (Ty.zero
  stepT)).snd.snd.fst) = IntKind.wrap IntKind.i64 (x_1.now + (List.getD x.snd.fst (Int.toNat x_1.i) (Ty.zero stepT)).snd.snd.fst)) ∧ Wr (x_1.started = x_1.started) ∧ Wr (x_1.since = x_1.since) ∧ Wr (x_1.due = x_1.due) ∧
  Wr (x_1.out = x_1.out) ∧ Wr (x_1.i = x_1.i) ∧ Wr (x.fst = x.fst) ∧ Wr (x.snd.fst = x.snd.fst) ∧ Wr (x.snd.snd.fst = x.snd.snd.fst) ∧ Wr ((lostF (hl x_1.h, hn x_1.h, ho x_1.h, hb x_1.h, hs x_1.h, hd x_1.h, ())
  ((List.getD x.snd.fst (Int.toNat x_1.i) (Ty.zero stepT)).snd.fst :: nilL Int)).fst = hl (lostF (hl x_1.h, hn x_1.h, ho x_1.h, hb x_1.h, hs x_1.h, hd x_1.h, ()) ((List.getD x.snd.fst (Int.toNat x_1.i) (Ty.zero
  stepT)).snd.fst :: nilL Int))) ∧ Wr ((lostF (hl x_1.h, hn x_1.h, ho x_1.h, hb x_1.h, hs x_1.h, hd x_1.h, ()) ((List.getD x.snd.fst (Int.toNat x_1.i) (Ty.zero stepT)).snd.fst :: nilL Int)).snd.fst = hn (lostF (hl x_1.h,
  hn x_1.h, ho x_1.h, hb x_1.h, hs x_1.h, hd x_1.h, ()) ((List.getD x.snd.fst (Int.toNat x_1.i) (Ty.zero stepT)).snd.fst :: nilL Int))) ∧ Wr ((lostF (hl x_1.h, hn x_1.h, ho x_1.h, hb x_1.h, hs x_1.h, hd x_1.h, ())
  ((List.getD x.snd.fst (Int.toNat x_1.i) (Ty.zero stepT)).snd.fst :: nilL Int)).snd.snd.fst = ho (lostF (hl x_1.h, hn x_1.h, ho x_1.h, hb x_1.h, hs x_1.h, hd x_1.h, ()) ((List.getD x.snd.fst (Int.toNat x_1.i) (Ty.zero
  stepT)).snd.fst :: nilL Int))) ∧ Wr ((lostF (hl x_1.h, hn x_1.h, ho x_1.h, hb x_1.h, hs x_1.h, hd x_1.h, ()) ((List.getD x.snd.fst (Int.toNat x_1.i) (Ty.zero stepT)).snd.fst :: nilL Int)).snd.snd.snd.fst = hb (lostF (hl
  x_1.h, hn x_1.h, ho x_1.h, hb x_1.h, hs x_1.h, hd x_1.h, ()) ((List.getD x.snd.fst (Int.toNat x_1.i) (Ty.zero stepT)).snd.fst :: nilL Int))) ∧ Wr ((lostF (hl x_1.h, hn x_1.h, ho x_1.h, hb x_1.h, hs x_1.h, hd x_1.h, ())
  ((List.getD x.snd.fst (Int.toNat x_1.i) (Ty.zero stepT)).snd.fst :: nilL Int)).snd.snd.snd.snd.fst = hs (lostF (hl x_1.h, hn x_1.h, ho x_1.h, hb x_1.h, hs x_1.h, hd x_1.h, ()) ((List.getD x.snd.fst (Int.toNat x_1.i)
  (Ty.zero stepT)).snd.fst :: nilL Int))) ∧ Wr ((lostF (hl x_1.h, hn x_1.h, ho x_1.h, hb x_1.h, hs x_1.h, hd x_1.h, ()) ((List.getD x.snd.fst (Int.toNat x_1.i) (Ty.zero stepT)).snd.fst :: nilL
  Int)).snd.snd.snd.snd.snd.fst = hd (lostF (hl x_1.h, hn x_1.h, ho x_1.h, hb x_1.h, hs x_1.h, hd x_1.h, ()) ((List.getD x.snd.fst (Int.toNat x_1.i) (Ty.zero stepT)).snd.fst :: nilL Int))) ∧ Wr (x_1.gone = x_1.gone)) (Wr
  ((0 : Int) ≤ (List.getD x.snd.fst (Int.toNat x_1.i) (Ty.zero stepT)).snd.fst) ∧ Wr ((List.getD x.snd.fst (Int.toNat x_1.i) (Ty.zero stepT)).snd.fst < (↑(List.length x_1.gone) : Int)) ∧ Wr (pCut x.fst x.snd.fst
  x.snd.snd.fst (PS.mk x_1.i (IntKind.wrap IntKind.i64 (x_1.now + (List.getD x.snd.fst (Int.toNat x_1.i) (Ty.zero stepT)).snd.snd.fst)) x_1.started x_1.since (IntKind.wrap IntKind.i64 (x_1.out - (1 : Int))) (x_1.due ||
  Decidable.decide ((List.getD x.snd.fst (Int.toNat x_1.i) (Ty.zero stepT)).snd.fst = IntKind.wrap IntKind.i64 (x_1.started - (1 : Int))) && Decidable.decide (x_1.started < (↑(List.length x.fst) : Int))) (List.set
  x_1.gone (Int.toNat (List.getD x.snd.fst (Int.toNat x_1.i) (Ty.zero stepT)).snd.fst) Bool.true) (lostF (hl x_1.h, hn x_1.h, ho x_1.h, hb x_1.h, hs x_1.h, hd x_1.h, ()) ((List.getD x.snd.fst (Int.toNat x_1.i) (Ty.zero
  stepT)).snd.fst :: nilL Int))) ∧ x_1.i = x_1.i) ∧ Wr (IntKind.wrap IntKind.i64 (x_1.now + (List.getD x.snd.fst (Int.toNat x_1.i) (Ty.zero stepT)).snd.snd.fst) = IntKind.wrap IntKind.i64 (x_1.now + (List.getD x.snd.fst
  (Int.toNat x_1.i) (Ty.zero stepT)).snd.snd.fst)) ∧ Wr (x_1.started = x_1.started) ∧ Wr (x_1.since = x_1.since) ∧ Wr ((x_1.due || Decidable.decide ((List.getD x.snd.fst (Int.toNat x_1.i) (Ty.zero stepT)).snd.fst =
  IntKind.wrap IntKind.i64 (x_1.started - (1 : Int))) && Decidable.decide (x_1.started < (↑(List.length x.fst) : Int))) = (x_1.due || Decidable.decide ((List.getD x.snd.fst (Int.toNat x_1.i) (Ty.zero stepT)).snd.fst =
  IntKind.wrap IntKind.i64 (x_1.started - (1 : Int))) && Decidable.decide (x_1.started < (↑(List.length x.fst) : Int)))) ∧ Wr (IntKind.wrap IntKind.i64 (x_1.out - (1 : Int)) = IntKind.wrap IntKind.i64 (x_1.out - (1 :
  Int))) ∧ Wr (x_1.i = x_1.i) ∧ Wr (x.fst = x.fst) ∧ Wr (x.snd.fst = x.snd.fst) ∧ Wr (x.snd.snd.fst = x.snd.snd.fst) ∧ Wr ((lostF (hl x_1.h, hn x_1.h, ho x_1.h, hb x_1.h, hs x_1.h, hd x_1.h, ()) ((List.getD x.snd.fst
  (Int.toNat x_1.i) (Ty.zero stepT)).snd.fst :: nilL Int)).fst = hl (lostF (hl x_1.h, hn x_1.h, ho x_1.h, hb x_1.h, hs x_1.h, hd x_1.h, ()) ((List.getD x.snd.fst (Int.toNat x_1.i) (Ty.zero stepT)).snd.fst :: nilL Int))) ∧
  Wr ((lostF (hl x_1.h, hn x_1.h, ho x_1.h, hb x_1.h, hs x_1.h, hd x_1.h, ()) ((List.getD x.snd.fst (Int.toNat x_1.i) (Ty.zero stepT)).snd.fst :: nilL Int)).snd.fst = hn (lostF (hl x_1.h, hn x_1.h, ho x_1.h, hb x_1.h, hs
  x_1.h, hd x_1.h, ()) ((List.getD x.snd.fst (Int.toNat x_1.i) (Ty.zero stepT)).snd.fst :: nilL Int))) ∧ Wr ((lostF (hl x_1.h, hn x_1.h, ho x_1.h, hb x_1.h, hs x_1.h, hd x_1.h, ()) ((List.getD x.snd.fst (Int.toNat x_1.i)
  (Ty.zero stepT)).snd.fst :: nilL Int)).snd.snd.fst = ho (lostF (hl x_1.h, hn x_1.h, ho x_1.h, hb x_1.h, hs x_1.h, hd x_1.h, ()) ((List.getD x.snd.fst (Int.toNat x_1.i) (Ty.zero stepT)).snd.fst :: nilL Int))) ∧ Wr
  ((lostF (hl x_1.h, hn x_1.h, ho x_1.h, hb x_1.h, hs x_1.h, hd x_1.h, ()) ((List.getD x.snd.fst (Int.toNat x_1.i) (Ty.zero stepT)).snd.fst :: nilL Int)).snd.snd.snd.fst = hb (lostF (hl x_1.h, hn x_1.h, ho x_1.h, hb
  x_1.h, hs x_1.h, hd x_1.h, ()) ((List.getD x.snd.fst (Int.toNat x_1.i) (Ty.zero stepT)).snd.fst :: nilL Int))) ∧ Wr ((lostF (hl x_1.h, hn x_1.h, ho x_1.h, hb x_1.h, hs x_1.h, hd x_1.h, ()) ((List.getD x.snd.fst
  (Int.toNat x_1.i) (Ty.zero stepT)).snd.fst :: nilL Int)).snd.snd.snd.snd.fst = hs (lostF (hl x_1.h, hn x_1.h, ho x_1.h, hb x_1.h, hs x_1.h, hd x_1.h, ()) ((List.getD x.snd.fst (Int.toNat x_1.i) (Ty.zero stepT)).snd.fst
  :: nilL Int))) ∧ Wr ((lostF (hl x_1.h, hn x_1.h, ho x_1.h, hb x_1.h, hs x_1.h, hd x_1.h, ()) ((List.getD x.snd.fst (Int.toNat x_1.i) (Ty.zero stepT)).snd.fst :: nilL Int)).snd.snd.snd.snd.snd.fst = hd (lostF (hl x_1.h,
  hn x_1.h, ho x_1.h, hb x_1.h, hs x_1.h, hd x_1.h, ()) ((List.getD x.snd.fst (Int.toNat x_1.i) (Ty.zero stepT)).snd.fst :: nilL Int))) ∧ Wr (List.set x_1.gone (Int.toNat (List.getD x.snd.fst (Int.toNat x_1.i) (Ty.zero
  stepT)).snd.fst) Bool.true = List.set x_1.gone (Int.toNat (List.getD x.snd.fst (Int.toNat x_1.i) (Ty.zero stepT)).snd.fst) Bool.true))) (bcase (Decidable.decide ((List.getD x.snd.fst (Int.toNat x_1.i) (Ty.zero
  stepT)).fst = (2 : Int))) (Wr (okH (hl x_1.h, hn x_1.h, ho x_1.h, hb x_1.h, hs x_1.h, hd x_1.h, ()) = Bool.true) ∧ Wr (pCut x.fst x.snd.fst x.snd.snd.fst (PS.mk x_1.i (IntKind.wrap IntKind.i64 (x_1.now + (List.getD
  x.snd.fst (Int.toNat x_1.i) (Ty.zero stepT)).snd.snd.fst)) x_1.started x_1.since x_1.out (x_1.due || Decidable.decide (x_1.started < (↑(List.length x.fst) : Int))) x_1.gone (timeF (hl x_1.h, hn x_1.h, ho x_1.h, hb
  x_1.h, hs x_1.h, hd x_1.h, ()))) ∧ x_1.i = x_1.i) ∧ Wr (IntKind.wrap IntKind.i64 (x_1.now + (List.getD x.snd.fst (Int.toNat x_1.i) (Ty.zero stepT)).snd.snd.fst) = IntKind.wrap IntKind.i64 (x_1.now + (List.getD x.snd.fst
  (Int.toNat x_1.i) (Ty.zero stepT)).snd.snd.fst)) ∧ Wr (x_1.started = x_1.started) ∧ Wr (x_1.since = x_1.since) ∧ Wr ((x_1.due || Decidable.decide (x_1.started < (↑(List.length x.fst) : Int))) = (x_1.due ||
  Decidable.decide (x_1.started < (↑(List.length x.fst) : Int)))) ∧ Wr (x_1.out = x_1.out) ∧ Wr (x_1.i = x_1.i) ∧ Wr (x.fst = x.fst) ∧ Wr (x.snd.fst = x.snd.fst) ∧ Wr (x.snd.snd.fst = x.snd.snd.fst) ∧ Wr ((timeF (hl
  x_1.h, hn x_1.h, ho x_1.h, hb x_1.h, hs x_1.h, hd x_1.h, ())).fst = hl (timeF (hl x_1.h, hn x_1.h, ho x_1.h, hb x_1.h, hs x_1.h, hd x_1.h, ()))) ∧ Wr ((timeF (hl x_1.h, hn x_1.h, ho x_1.h, hb x_1.h, hs x_1.h, hd x_1.h,
  ())).snd.fst = hn (timeF (hl x_1.h, hn x_1.h, ho x_1.h, hb x_1.h, hs x_1.h, hd x_1.h, ()))) ∧ Wr ((timeF (hl x_1.h, hn x_1.h, ho x_1.h, hb x_1.h, hs x_1.h, hd x_1.h, ())).snd.snd.fst = ho (timeF (hl x_1.h, hn x_1.h, ho
  x_1.h, hb x_1.h, hs x_1.h, hd x_1.h, ()))) ∧ Wr ((timeF (hl x_1.h, hn x_1.h, ho x_1.h, hb x_1.h, hs x_1.h, hd x_1.h, ())).snd.snd.snd.fst = hb (timeF (hl x_1.h, hn x_1.h, ho x_1.h, hb x_1.h, hs x_1.h, hd x_1.h, ()))) ∧
  Wr ((timeF (hl x_1.h, hn x_1.h, ho x_1.h, hb x_1.h, hs x_1.h, hd x_1.h, ())).snd.snd.snd.snd.fst = hs (timeF (hl x_1.h, hn x_1.h, ho x_1.h, hb x_1.h, hs x_1.h, hd x_1.h, ()))) ∧ Wr ((timeF (hl x_1.h, hn x_1.h, ho x_1.h,
  hb x_1.h, hs x_1.h, hd x_1.h, ())).snd.snd.snd.snd.snd.fst = hd (timeF (hl x_1.h, hn x_1.h, ho x_1.h, hb x_1.h, hs x_1.h, hd x_1.h, ()))) ∧ Wr (x_1.gone = x_1.gone)) (Wr (pCut x.fst x.snd.fst x.snd.snd.fst (PS.mk x_1.i
  (IntKind.wrap IntKind.i64 (x_1.now + (List.getD x.snd.fst (Int.toNat x_1.i) (Ty.zero stepT)).snd.snd.fst)) x_1.started x_1.since x_1.out x_1.due x_1.gone (hl x_1.h, hn x_1.h, ho x_1.h, hb x_1.h, hs x_1.h, hd x_1.h, ()))
  ∧ x_1.i = x_1.i) ∧ Wr (IntKind.wrap IntKind.i64 (x_1.now + (List.getD x.snd.fst (Int.toNat x_1.i) (Ty.zero stepT)).snd.snd.fst) = IntKind.wrap IntKind.i64 (x_1.now + (List.getD x.snd.fst (Int.toNat x_1.i) (Ty.zero
  stepT)).snd.snd.fst)) ∧ Wr (x_1.started = x_1.started) ∧ Wr (x_1.since = x_1.since) ∧ Wr (x_1.due = x_1.due) ∧ Wr (x_1.out = x_1.out) ∧ Wr (x_1.i = x_1.i) ∧ Wr (x.fst = x.fst) ∧ Wr (x.snd.fst = x.snd.fst) ∧ Wr
  (x.snd.snd.fst = x.snd.snd.fst) ∧ Wr (hl x_1.h = hl (hl x_1.h, hn x_1.h, ho x_1.h, hb x_1.h, hs x_1.h, hd x_1.h, ())) ∧ Wr (hn x_1.h = hn (hl x_1.h, hn x_1.h, ho x_1.h, hb x_1.h, hs x_1.h, hd x_1.h, ())) ∧ Wr (ho x_1.h
  = ho (hl x_1.h, hn x_1.h, ho x_1.h, hb x_1.h, hs x_1.h, hd x_1.h, ())) ∧ Wr (hb x_1.h = hb (hl x_1.h, hn x_1.h, ho x_1.h, hb x_1.h, hs x_1.h, hd x_1.h, ())) ∧ Wr (hs x_1.h = hs (hl x_1.h, hn x_1.h, ho x_1.h, hb x_1.h,
  hs x_1.h, hd x_1.h, ())) ∧ Wr (hd x_1.h = hd (hl x_1.h, hn x_1.h, ho x_1.h, hb x_1.h, hs x_1.h, hd x_1.h, ())) ∧ Wr (x_1.gone = x_1.gone))))) ∧ ∀ (x_2 : PS), Wr (pCut x.fst x.snd.fst x.snd.snd.fst x_2 ∧ x_2.i = x_1.i) →
  Wr (okH (hl x_2.h, hn x_2.h, ho x_2.h, hb x_2.h, hs x_2.h, hd x_2.h, ()) = Bool.true) ∧ Wr ((!(!mayB (hl x_2.h, hn x_2.h, ho x_2.h, hb x_2.h, hs x_2.h, hd x_2.h, ()) || !Decidable.decide (ho x_2.h = x_2.out) ||
  !Decidable.decide (hn x_2.h = x_2.started))) = Bool.true → okH (hl x_2.h, hn x_2.h, ho x_2.h, hb x_2.h, hs x_2.h, hd x_2.h, ()) = Bool.true) ∧ bcase (!mayB (hl x_2.h, hn x_2.h, ho x_2.h, hb x_2.h, hs x_2.h, hd x_2.h,
  ()) || !Decidable.decide (ho x_2.h = x_2.out) || !Decidable.decide (hn x_2.h = x_2.started) || !overB (hl x_2.h, hn x_2.h, ho x_2.h, hb x_2.h, hs x_2.h, hd x_2.h, ()) == (Decidable.decide (x_2.started = (↑(List.length
  x.fst) : Int)) && Decidable.decide (x_2.out = (0 : Int)))) ((Bool.false, ()) = (Bool.true, ())) (Wr (pLoop x.fst x.snd.fst x.snd.snd.fst (PS.mk (IntKind.wrap IntKind.i64 (x_2.i + (1 : Int))) x_2.now x_2.started
  x_2.since x_2.out x_2.due x_2.gone (hl x_2.h, hn x_2.h, ho x_2.h, hb x_2.h, hs x_2.h, hd x_2.h, ()))) ∧ Wr (List.length x.snd.fst - Int.toNat (IntKind.wrap IntKind.i64 (x_2.i + (1 : Int))) < List.length x.snd.fst -
  Int.toNat x_1.i) ∧ Wr (x_2.now = x_2.now) ∧ Wr (x_2.started = x_2.started) ∧ Wr (x_2.since = x_2.since) ∧ Wr (x_2.due = x_2.due) ∧ Wr (x_2.out = x_2.out) ∧ Wr (IntKind.wrap IntKind.i64 (x_2.i + (1 : Int)) = IntKind.wrap
  IntKind.i64 (x_2.i + (1 : Int))) ∧ Wr (x.fst = x.fst) ∧ Wr (x.snd.fst = x.snd.fst) ∧ Wr (x.snd.snd.fst = x.snd.snd.fst) ∧ Wr (hl x_2.h = hl (hl x_2.h, hn x_2.h, ho x_2.h, hb x_2.h, hs x_2.h, hd x_2.h, ())) ∧ Wr (hn
  x_2.h = hn (hl x_2.h, hn x_2.h, ho x_2.h, hb x_2.h, hs x_2.h, hd x_2.h, ())) ∧ Wr (ho x_2.h = ho (hl x_2.h, hn x_2.h, ho x_2.h, hb x_2.h, hs x_2.h, hd x_2.h, ())) ∧ Wr (hb x_2.h = hb (hl x_2.h, hn x_2.h, ho x_2.h, hb
  x_2.h, hs x_2.h, hd x_2.h, ())) ∧ Wr (hs x_2.h = hs (hl x_2.h, hn x_2.h, ho x_2.h, hb x_2.h, hs x_2.h, hd x_2.h, ())) ∧ Wr (hd x_2.h = hd (hl x_2.h, hn x_2.h, ho x_2.h, hb x_2.h, hs x_2.h, hd x_2.h, ())) ∧ Wr (x_2.gone
  = x_2.gone))))) (Wr True ∧ (Bool.true, ()) = (Bool.true, ())))) := by kernel_rfl
theorem v10_eq : vcFn g10 300 Try.f10 cAll = ( ∀ (x : List (Int × (Int × Int × Int × Int × Int × Int × Int × Int × Unit) × Int × Unit) × List Int × Int × Unit), Wr True → bcase (Decidable.decide ((↑(List.length x.fst) : Int) > (40 : Int)) || Decidable.decide
  ((↑(List.length x.snd.fst) : Int) > (100 : Int))) (Wr True ∧ (Bool.true, ()) = (Bool.true, ())) (Wr (Decidable.decide (List.length x.fst ≤ (1000000 : Nat)) = Bool.true) ∧ (Wr (AInv x.fst ((0 : Int), begin x.fst)) ∧ Wr
  ((0 : Int) = (0 : Int)) ∧ Wr (x.fst = x.fst) ∧ Wr (x.snd.fst = x.snd.fst) ∧ Wr (x.snd.snd.fst = x.snd.snd.fst) ∧ Wr ((begin x.fst).fst = hl (begin x.fst)) ∧ Wr ((begin x.fst).snd.fst = hn (begin x.fst)) ∧ Wr ((begin
  x.fst).snd.snd.fst = ho (begin x.fst)) ∧ Wr ((begin x.fst).snd.snd.snd.fst = hb (begin x.fst)) ∧ Wr ((begin x.fst).snd.snd.snd.snd.fst = hs (begin x.fst)) ∧ Wr ((begin x.fst).snd.snd.snd.snd.snd.fst = hd (begin x.fst)))
  ∧ ∀ (x_1 : Int × List (Int × (Int × Int × Int × Int × Int × Int × Int × Int × Unit) × Int × Unit) × Int × Int × List Int × Int × Bool × Unit), Wr (AInv x.fst x_1) → bcase (Decidable.decide (x_1.fst < (↑(List.length
  x.fst) : Int))) (Wr (okH (hl x_1.snd, hn x_1.snd, ho x_1.snd, hb x_1.snd, hs x_1.snd, hd x_1.snd, ()) = Bool.true) ∧ Wr (okH (timeF (hl x_1.snd, hn x_1.snd, ho x_1.snd, hb x_1.snd, hs x_1.snd, hd x_1.snd, ())) =
  Bool.true) ∧ Wr ((!!Decidable.decide ((start (timeF (hl x_1.snd, hn x_1.snd, ho x_1.snd, hb x_1.snd, hs x_1.snd, hd x_1.snd, ())) x.snd.snd.fst).snd.snd.snd.fst = (0 : Int))) = Bool.true → True) ∧ bcase
  (!Decidable.decide ((start (timeF (hl x_1.snd, hn x_1.snd, ho x_1.snd, hb x_1.snd, hs x_1.snd, hd x_1.snd, ())) x.snd.snd.fst).snd.snd.snd.fst = (0 : Int)) || !Decidable.decide ((start (timeF (hl x_1.snd, hn x_1.snd, ho
  x_1.snd, hb x_1.snd, hs x_1.snd, hd x_1.snd, ())) x.snd.snd.fst).fst.snd.snd.snd.snd.fst = clamp x.snd.snd.fst)) ((Bool.false, ()) = (Bool.true, ())) (Wr (AInv x.fst (IntKind.wrap IntKind.i64 (x_1.fst + (1 : Int)),
  (start (timeF (hl x_1.snd, hn x_1.snd, ho x_1.snd, hb x_1.snd, hs x_1.snd, hd x_1.snd, ())) x.snd.snd.fst).fst)) ∧ Wr (List.length x.fst - Int.toNat (IntKind.wrap IntKind.i64 (x_1.fst + (1 : Int))) < List.length x.fst -
  Int.toNat x_1.fst) ∧ Wr (IntKind.wrap IntKind.i64 (x_1.fst + (1 : Int)) = IntKind.wrap IntKind.i64 (x_1.fst + (1 : Int))) ∧ Wr (x.fst = x.fst) ∧ Wr (x.snd.fst = x.snd.fst) ∧ Wr (x.snd.snd.fst = x.snd.snd.fst) ∧ Wr
  ((start (timeF (hl x_1.snd, hn x_1.snd, ho x_1.snd, hb x_1.snd, hs x_1.snd, hd x_1.snd, ())) x.snd.snd.fst).fst.fst = hl (start (timeF (hl x_1.snd, hn x_1.snd, ho x_1.snd, hb x_1.snd, hs x_1.snd, hd x_1.snd, ()))
  x.snd.snd.fst).fst) ∧ Wr ((start (timeF (hl x_1.snd, hn x_1.snd, ho x_1.snd, hb x_1.snd, hs x_1.snd, hd x_1.snd, ())) x.snd.snd.fst).fst.snd.fst = hn (start (timeF (hl x_1.snd, hn x_1.snd, ho x_1.snd, hb x_1.snd, hs
  x_1.snd, hd x_1.snd, ())) x.snd.snd.fst).fst) ∧ Wr ((start (timeF (hl x_1.snd, hn x_1.snd, ho x_1.snd, hb x_1.snd, hs x_1.snd, hd x_1.snd, ())) x.snd.snd.fst).fst.snd.snd.fst = ho (start (timeF (hl x_1.snd, hn x_1.snd,
  ho x_1.snd, hb x_1.snd, hs x_1.snd, hd x_1.snd, ())) x.snd.snd.fst).fst) ∧ Wr ((start (timeF (hl x_1.snd, hn x_1.snd, ho x_1.snd, hb x_1.snd, hs x_1.snd, hd x_1.snd, ())) x.snd.snd.fst).fst.snd.snd.snd.fst = hb (start
  (timeF (hl x_1.snd, hn x_1.snd, ho x_1.snd, hb x_1.snd, hs x_1.snd, hd x_1.snd, ())) x.snd.snd.fst).fst) ∧ Wr ((start (timeF (hl x_1.snd, hn x_1.snd, ho x_1.snd, hb x_1.snd, hs x_1.snd, hd x_1.snd, ()))
  x.snd.snd.fst).fst.snd.snd.snd.snd.fst = hs (start (timeF (hl x_1.snd, hn x_1.snd, ho x_1.snd, hb x_1.snd, hs x_1.snd, hd x_1.snd, ())) x.snd.snd.fst).fst) ∧ Wr ((start (timeF (hl x_1.snd, hn x_1.snd, ho x_1.snd, hb
  x_1.snd, hs x_1.snd, hd x_1.snd, ())) x.snd.snd.fst).fst.snd.snd.snd.snd.snd.fst = hd (start (timeF (hl x_1.snd, hn x_1.snd, ho x_1.snd, hb x_1.snd, hs x_1.snd, hd x_1.snd, ())) x.snd.snd.fst).fst))) (Wr (okH (hl
  x_1.snd, hn x_1.snd, ho x_1.snd, hb x_1.snd, hs x_1.snd, hd x_1.snd, ()) = Bool.true) ∧ bcase (!Decidable.decide ((start (hl x_1.snd, hn x_1.snd, ho x_1.snd, hb x_1.snd, hs x_1.snd, hd x_1.snd, ())
  x.snd.snd.fst).snd.snd.snd.fst = (2 : Int))) ((Bool.false, ()) = (Bool.true, ())) ((Wr ((0 : Int) ≤ (0 : Int) ∧ (0 : Int) ≤ (↑(List.length x.snd.fst) : Int) ∧ List.length x.snd.fst ≤ (100 : Nat) ∧ QInv x.fst (hl
  x_1.snd, hn x_1.snd, ho x_1.snd, hb x_1.snd, hs x_1.snd, hd x_1.snd, ())) ∧ Wr ((0 : Int) = (0 : Int)) ∧ Wr (x.fst = x.fst) ∧ Wr (x.snd.fst = x.snd.fst) ∧ Wr (hl x_1.snd = hl (hl x_1.snd, hn x_1.snd, ho x_1.snd, hb
  x_1.snd, hs x_1.snd, hd x_1.snd, ())) ∧ Wr (hn x_1.snd = hn (hl x_1.snd, hn x_1.snd, ho x_1.snd, hb x_1.snd, hs x_1.snd, hd x_1.snd, ())) ∧ Wr (ho x_1.snd = ho (hl x_1.snd, hn x_1.snd, ho x_1.snd, hb x_1.snd, hs
  x_1.snd, hd x_1.snd, ())) ∧ Wr (hb x_1.snd = hb (hl x_1.snd, hn x_1.snd, ho x_1.snd, hb x_1.snd, hs x_1.snd, hd x_1.snd, ())) ∧ Wr (hs x_1.snd = hs (hl x_1.snd, hn x_1.snd, ho x_1.snd, hb x_1.snd, hs x_1.snd, hd
  x_1.snd, ())) ∧ Wr (hd x_1.snd = hd (hl x_1.snd, hn x_1.snd, ho x_1.snd, hb x_1.snd, hs x_1.snd, hd x_1.snd, ()))) ∧ ∀ (x_2 : Int × List (Int × (Int × Int × Int × Int × Int × Int × Int × Int × Unit) × Int × Unit) × Int
  × Int × List Int × Int × Bool × Unit), Wr ((0 : Int) ≤ x_2.fst ∧ x_2.fst ≤ (↑(List.length x.snd.fst) : Int) ∧ List.length x.snd.fst ≤ (100 : Nat) ∧ QInv x.fst x_2.snd) → bcase (Decidable.decide (x_2.fst < (↑(List.length
  x.snd.fst) : Int))) (Wr ((0 : Int) ≤ x_2.fst) ∧ Wr (x_2.fst < (↑(List.length x.snd.fst) : Int)) ∧ Wr (Bool.true = Bool.true) ∧ Wr ((0 : Int) ≤ x_2.fst) ∧ Wr (x_2.fst < (↑(List.length x.snd.fst) : Int)) ∧ Wr (Bool.true =
  Bool.true) ∧ Wr (okLost (hl x_2.snd, hn x_2.snd, ho x_2.snd, hb x_2.snd, hs x_2.snd, hd x_2.snd, ()) (List.getD x.snd.fst (Int.toNat x_2.fst) (0 : Int) :: List.getD x.snd.fst (Int.toNat x_2.fst) (0 : Int) :: nilL Int) =
  Bool.true) ∧ Wr ((0 : Int) ≤ IntKind.wrap IntKind.i64 (x_2.fst + (1 : Int)) ∧ IntKind.wrap IntKind.i64 (x_2.fst + (1 : Int)) ≤ (↑(List.length x.snd.fst) : Int) ∧ List.length x.snd.fst ≤ (100 : Nat) ∧ QInv x.fst (lostF
  (hl x_2.snd, hn x_2.snd, ho x_2.snd, hb x_2.snd, hs x_2.snd, hd x_2.snd, ()) (List.getD x.snd.fst (Int.toNat x_2.fst) (0 : Int) :: List.getD x.snd.fst (Int.toNat x_2.fst) (0 : Int) :: nilL Int))) ∧ Wr (List.length
  x.snd.fst - Int.toNat (IntKind.wrap IntKind.i64 (x_2.fst + (1 : Int))) < List.length x.snd.fst - Int.toNat x_2.fst) ∧ Wr (IntKind.wrap IntKind.i64 (x_2.fst + (1 : Int)) = IntKind.wrap IntKind.i64 (x_2.fst + (1 : Int)))
  ∧ Wr (x.fst = x.fst) ∧ Wr (x.snd.fst = x.snd.fst) ∧ Wr ((lostF (hl x_2.snd, hn x_2.snd, ho x_2.snd, hb x_2.snd, hs x_2.snd, hd x_2.snd, ()) (List.getD x.snd.fst (Int.toNat x_2.fst) (0 : Int) :: List.getD x.snd.fst
  (Int.toNat x_2.fst) (0 : Int) :: nilL Int)).fst = hl (lostF (hl x_2.snd, hn x_2.snd, ho x_2.snd, hb x_2.snd, hs x_2.snd, hd x_2.snd, ()) (List.getD x.snd.fst (Int.toNat x_2.fst) (0 : Int) :: List.getD x.snd.fst
  (Int.toNat x_2.fst) (0 : Int) :: nilL Int))) ∧ Wr ((lostF (hl x_2.snd, hn x_2.snd, ho x_2.snd, hb x_2.snd, hs x_2.snd, hd x_2.snd, ()) (List.getD x.snd.fst (Int.toNat x_2.fst) (0 : Int) :: List.getD x.snd.fst (Int.toNat
  x_2.fst) (0 : Int) :: nilL Int)).snd.fst = hn (lostF (hl x_2.snd, hn x_2.snd, ho x_2.snd, hb x_2.snd, hs x_2.snd, hd x_2.snd, ()) (List.getD x.snd.fst (Int.toNat x_2.fst) (0 : Int) :: List.getD x.snd.fst (Int.toNat
  x_2.fst) (0 : Int) :: nilL Int))) ∧ Wr ((lostF (hl x_2.snd, hn x_2.snd, ho x_2.snd, hb x_2.snd, hs x_2.snd, hd x_2.snd, ()) (List.getD x.snd.fst (Int.toNat x_2.fst) (0 : Int) :: List.getD x.snd.fst (Int.toNat x_2.fst)
  (0 : Int) :: nilL Int)).snd.snd.fst = ho (lostF (hl x_2.snd, hn x_2.snd, ho x_2.snd, hb x_2.snd, hs x_2.snd, hd x_2.snd, ()) (List.getD x.snd.fst (Int.toNat x_2.fst) (0 : Int) :: List.getD x.snd.fst (Int.toNat x_2.fst)
  (0 : Int) :: nilL Int))) ∧ Wr ((lostF (hl x_2.snd, hn x_2.snd, ho x_2.snd, hb x_2.snd, hs x_2.snd, hd x_2.snd, ()) (List.getD x.snd.fst (Int.toNat x_2.fst) (0 : Int) :: List.getD x.snd.fst (Int.toNat x_2.fst) (0 : Int)
  :: nilL Int)).snd.snd.snd.fst = hb (lostF (hl x_2.snd, hn x_2.snd, ho x_2.snd, hb x_2.snd, hs x_2.snd, hd x_2.snd, ()) (List.getD x.snd.fst (Int.toNat x_2.fst) (0 : Int) :: List.getD x.snd.fst (Int.toNat x_2.fst) (0 :
  Int) :: nilL Int))) ∧ Wr ((lostF (hl x_2.snd, hn x_2.snd, ho x_2.snd, hb x_2.snd, hs x_2.snd, hd x_2.snd, ()) (List.getD x.snd.fst (Int.toNat x_2.fst) (0 : Int) :: List.getD x.snd.fst (Int.toNat x_2.fst) (0 : Int) ::
  nilL Int)).snd.snd.snd.snd.fst = hs (lostF (hl x_2.snd, hn x_2.snd, ho x_2.snd, hb x_2.snd, hs x_2.snd, hd x_2.snd, ()) (List.getD x.snd.fst (Int.toNat x_2.fst) (0 : Int) :: List.getD x.snd.fst (Int.toNat x_2.fst) (0 :
  Int) :: nilL Int))) ∧ Wr ((lostF (hl x_2.snd, hn x_2.snd, ho x_2.snd, hb x_2.snd, hs x_2.snd, hd x_2.snd, ()) (List.getD x.snd.fst (Int.toNat x_2.fst) (0 : Int) :: List.getD x.snd.fst (Int.toNat x_2.fst) (0 : Int) ::
  nilL Int)).snd.snd.snd.snd.snd.fst = hd (lostF (hl x_2.snd, hn x_2.snd, ho x_2.snd, hb x_2.snd, hs x_2.snd, hd x_2.snd, ()) (List.getD x.snd.fst (Int.toNat x_2.fst) (0 : Int) :: List.getD x.snd.fst (Int.toNat x_2.fst)
  (0 : Int) :: nilL Int)))) ((Wr ((0 : Int) ≤ (0 : Int) ∧ (0 : Int) ≤ (↑(List.length x.fst) : Int) ∧ QInv x.fst (hl x_2.snd, hn x_2.snd, ho x_2.snd, hb x_2.snd, hs x_2.snd, hd x_2.snd, ()) ∧ ∀ (k : Int), (0 : Int) ≤ k → k
  < (0 : Int) → k ∈ hb (hl x_2.snd, hn x_2.snd, ho x_2.snd, hb x_2.snd, hs x_2.snd, hd x_2.snd, ())) ∧ Wr ((0 : Int) = (0 : Int)) ∧ Wr (x.fst = x.fst) ∧ Wr (hl x_2.snd = hl (hl x_2.snd, hn x_2.snd, ho x_2.snd, hb x_2.snd,
  hs x_2.snd, hd x_2.snd, ())) ∧ Wr (hn x_2.snd = hn (hl x_2.snd, hn x_2.snd, ho x_2.snd, hb x_2.snd, hs x_2.snd, hd x_2.snd, ())) ∧ Wr (ho x_2.snd = ho (hl x_2.snd, hn x_2.snd, ho x_2.snd, hb x_2.snd, hs x_2.snd, hd
  x_2.snd, ())) ∧ Wr (hb x_2.snd = hb (hl x_2.snd, hn x_2.snd, ho x_2.snd, hb x_2.snd, hs x_2.snd, hd x_2.snd, ())) ∧ Wr (hs x_2.snd = hs (hl x_2.snd, hn x_2.snd, ho x_2.snd, hb x_2.snd, hs x_2.snd, hd x_2.snd, ())) ∧ Wr
  (hd x_2.snd = hd (hl x_2.snd, hn x_2.snd, ho x_2.snd, hb x_2.snd, hs x_2.snd, hd x_2.snd, ()))) ∧ ∀ (x_3 : Int × List (Int × (Int × Int × Int × Int × Int × Int × Int × Int × Unit) × Int × Unit) × Int × Int × List Int ×
  Int × Bool × Unit), Wr ((0 : Int) ≤ x_3.fst ∧ x_3.fst ≤ (↑(List.length x.fst) : Int) ∧ QInv x.fst x_3.snd ∧ ∀ (k : Int), (0 : Int) ≤ k → k < x_3.fst → k ∈ hb x_3.snd) → bcase (Decidable.decide (x_3.fst < (↑(List.length
  x.fst) : Int))) (Wr (okLost (hl x_3.snd, hn x_3.snd, ho x_3.snd, hb x_3.snd, hs x_3.snd, hd x_3.snd, ()) (x_3.fst :: nilL Int) = Bool.true) ∧ Wr ((0 : Int) ≤ IntKind.wrap IntKind.i64 (x_3.fst + (1 : Int)) ∧ IntKind.wrap
  IntKind.i64 (x_3.fst + (1 : Int)) ≤ (↑(List.length x.fst) : Int) ∧ QInv x.fst (lostF (hl x_3.snd, hn x_3.snd, ho x_3.snd, hb x_3.snd, hs x_3.snd, hd x_3.snd, ()) (x_3.fst :: nilL Int)) ∧ ∀ (k : Int), (0 : Int) ≤ k → k <
  IntKind.wrap IntKind.i64 (x_3.fst + (1 : Int)) → k ∈ hb (lostF (hl x_3.snd, hn x_3.snd, ho x_3.snd, hb x_3.snd, hs x_3.snd, hd x_3.snd, ()) (x_3.fst :: nilL Int))) ∧ Wr (List.length x.fst - Int.toNat (IntKind.wrap
  IntKind.i64 (x_3.fst + (1 : Int))) < List.length x.fst - Int.toNat x_3.fst) ∧ Wr (IntKind.wrap IntKind.i64 (x_3.fst + (1 : Int)) = IntKind.wrap IntKind.i64 (x_3.fst + (1 : Int))) ∧ Wr (x.fst = x.fst) ∧ Wr ((lostF (hl
  x_3.snd, hn x_3.snd, ho x_3.snd, hb x_3.snd, hs x_3.snd, hd x_3.snd, ()) (x_3.fst :: nilL Int)).fst = hl (lostF (hl x_3.snd, hn x_3.snd, ho x_3.snd, hb x_3.snd, hs x_3.snd, hd x_3.snd, ()) (x_3.fst :: nilL Int))) ∧ Wr
  ((lostF (hl x_3.snd, hn x_3.snd, ho x_3.snd, hb x_3.snd, hs x_3.snd, hd x_3.snd, ()) (x_3.fst :: nilL Int)).snd.fst = hn (lostF (hl x_3.snd, hn x_3.snd, ho x_3.snd, hb x_3.snd, hs x_3.snd, hd x_3.snd, ()) (x_3.fst ::
  nilL Int))) ∧ Wr ((lostF (hl x_3.snd, hn x_3.snd, ho x_3.snd, hb x_3.snd, hs x_3.snd, hd x_3.snd, ()) (x_3.fst :: nilL Int)).snd.snd.fst = ho (lostF (hl x_3.snd, hn x_3.snd, ho x_3.snd, hb x_3.snd, hs x_3.snd, hd
  x_3.snd, ()) (x_3.fst :: nilL Int))) ∧ Wr ((lostF (hl x_3.snd, hn x_3.snd, ho x_3.snd, hb x_3.snd, hs x_3.snd, hd x_3.snd, ()) (x_3.fst :: nilL Int)).snd.snd.snd.fst = hb (lostF (hl x_3.snd, hn x_3.snd, ho x_3.snd, hb
  x_3.snd, hs x_3.snd, hd x_3.snd, ()) (x_3.fst :: nilL Int))) ∧ Wr ((lostF (hl x_3.snd, hn x_3.snd, ho x_3.snd, hb x_3.snd, hs x_3.snd, hd x_3.snd, ()) (x_3.fst :: nilL Int)).snd.snd.snd.snd.fst = hs (lostF (hl x_3.snd,
  hn x_3.snd, ho x_3.snd, hb x_3.snd, hs x_3.snd, hd x_3.snd, ()) (x_3.fst :: nilL Int))) ∧ Wr ((lostF (hl x_3.snd, hn x_3.snd, ho x_3.snd, hb x_3.snd, hs x_3.snd, hd x_3.snd, ()) (x_3.fst :: nilL
  Int)).snd.snd.snd.snd.snd.fst = hd (lostF (hl x_3.snd, hn x_3.snd, ho x_3.snd, hb x_3.snd, hs x_3.snd, hd x_3.snd, ()) (x_3.fst :: nilL Int)))) (Wr (okH (hl x_3.snd, hn x_3.snd, ho x_3.snd, hb x_3.snd, hs x_3.snd, hd
  x_3.snd, ()) = Bool.true) ∧ (Wr ((0 : Int) ≤ (0 : Int) ∧ (0 : Int) ≤ (↑(List.length x.fst) : Int)) ∧ Wr ((0 : Int) = (0 : Int)) ∧ Wr (x.fst = x.fst) ∧ Wr (failedF (hl x_3.snd, hn x_3.snd, ho x_3.snd, hb x_3.snd, hs
  x_3.snd, hd x_3.snd, ()) = failedF (hl x_3.snd, hn x_3.snd, ho x_3.snd, hb x_3.snd, hs x_3.snd, hd x_3.snd, ())) ∧ Wr (hl x_3.snd = hl x_3.snd) ∧ Wr (hn x_3.snd = hn x_3.snd) ∧ Wr (ho x_3.snd = ho x_3.snd) ∧ Wr (hb
  x_3.snd = hb x_3.snd) ∧ Wr (hs x_3.snd = hs x_3.snd) ∧ Wr (hd x_3.snd = hd x_3.snd)) ∧ ∀ (x_4 : Int), Wr ((0 : Int) ≤ x_4 ∧ x_4 ≤ (↑(List.length x.fst) : Int)) → bcase (Decidable.decide (x_4 < (↑(List.length x.fst) :
  Int))) ((Wr ((0 : Int) ≤ (0 : Int) ∧ (0 : Int) ≤ (↑(List.length (failedF (hl x_3.snd, hn x_3.snd, ho x_3.snd, hb x_3.snd, hs x_3.snd, hd x_3.snd, ()))) : Int) ∧ (0 : Int) = cntA (failedF (hl x_3.snd, hn x_3.snd, ho
  x_3.snd, hb x_3.snd, hs x_3.snd, hd x_3.snd, ())) (List.getD x.fst (Int.toNat x_4) a0) (0 : Int)) ∧ Wr ((0 : Int) = (0 : Int)) ∧ Wr ((0 : Int) = (0 : Int)) ∧ Wr (x.fst = x.fst) ∧ Wr (failedF (hl x_3.snd, hn x_3.snd, ho
  x_3.snd, hb x_3.snd, hs x_3.snd, hd x_3.snd, ()) = failedF (hl x_3.snd, hn x_3.snd, ho x_3.snd, hb x_3.snd, hs x_3.snd, hd x_3.snd, ())) ∧ Wr (x_4 = x_4) ∧ Wr ((0 : Int) = (0 : Int)) ∧ Wr (hl x_3.snd = hl x_3.snd) ∧ Wr
  (hn x_3.snd = hn x_3.snd) ∧ Wr (ho x_3.snd = ho x_3.snd) ∧ Wr (hb x_3.snd = hb x_3.snd) ∧ Wr (hs x_3.snd = hs x_3.snd) ∧ Wr (hd x_3.snd = hd x_3.snd)) ∧ ∀ (x_5 : Int × Int), Wr ((0 : Int) ≤ x_5.snd ∧ x_5.snd ≤
  (↑(List.length (failedF (hl x_3.snd, hn x_3.snd, ho x_3.snd, hb x_3.snd, hs x_3.snd, hd x_3.snd, ()))) : Int) ∧ x_5.fst = cntA (failedF (hl x_3.snd, hn x_3.snd, ho x_3.snd, hb x_3.snd, hs x_3.snd, hd x_3.snd, ()))
  (List.getD x.fst (Int.toNat x_4) a0) x_5.snd) → bcase (Decidable.decide (x_5.snd < (↑(List.length (failedF (hl x_3.snd, hn x_3.snd, ho x_3.snd, hb x_3.snd, hs x_3.snd, hd x_3.snd, ()))) : Int))) (Wr ((0 : Int) ≤
  x_5.snd) ∧ Wr (x_5.snd < (↑(List.length (failedF (hl x_3.snd, hn x_3.snd, ho x_3.snd, hb x_3.snd, hs x_3.snd, hd x_3.snd, ()))) : Int)) ∧ Wr (Bool.true = Bool.true) ∧ Wr ((0 : Int) ≤ x_4) ∧ Wr (x_4 < (↑(List.length
  x.fst) : Int)) ∧ Wr (Bool.true = Bool.true) ∧ bcase (Ty.eqb (Ty.cons (Ty.int IntKind.i8) (Ty.cons (Ty.arr (8 : Nat) (Ty.int IntKind.u16)) (Ty.cons (Ty.int IntKind.i64) Ty.unit))) (List.getD (failedF (hl x_3.snd, hn
  x_3.snd, ho x_3.snd, hb x_3.snd, hs x_3.snd, hd x_3.snd, ())) (Int.toNat x_5.snd) (Ty.zero addrT)) (List.getD x.fst (Int.toNat x_4) (Ty.zero addrT))) (Wr ((0 : Int) ≤ IntKind.wrap IntKind.i64 (x_5.snd + (1 : Int)) ∧
  IntKind.wrap IntKind.i64 (x_5.snd + (1 : Int)) ≤ (↑(List.length (failedF (hl x_3.snd, hn x_3.snd, ho x_3.snd, hb x_3.snd, hs x_3.snd, hd x_3.snd, ()))) : Int) ∧ IntKind.wrap IntKind.i64 (x_5.fst + (1 : Int)) = cntA
  (failedF (hl x_3.snd, hn x_3.snd, ho x_3.snd, hb x_3.snd, hs x_3.snd, hd x_3.snd, ())) (List.getD x.fst (Int.toNat x_4) a0) (IntKind.wrap IntKind.i64 (x_5.snd + (1 : Int)))) ∧ Wr (List.length (failedF (hl x_3.snd, hn
  x_3.snd, ho x_3.snd, hb x_3.snd, hs x_3.snd, hd x_3.snd, ())) - Int.toNat (IntKind.wrap IntKind.i64 (x_5.snd + (1 : Int))) < List.length (failedF (hl x_3.snd, hn x_3.snd, ho x_3.snd, hb x_3.snd, hs x_3.snd, hd x_3.snd,
  ())) - Int.toNat x_5.snd) ∧ Wr (IntKind.wrap IntKind.i64 (x_5.fst + (1 : Int)) = IntKind.wrap IntKind.i64 (x_5.fst + (1 : Int))) ∧ Wr (IntKind.wrap IntKind.i64 (x_5.snd + (1 : Int)) = IntKind.wrap IntKind.i64 (x_5.snd +
  (1 : Int))) ∧ Wr (x.fst = x.fst) ∧ Wr (failedF (hl x_3.snd, hn x_3.snd, ho x_3.snd, hb x_3.snd, hs x_3.snd, hd x_3.snd, ()) = failedF (hl x_3.snd, hn x_3.snd, ho x_3.snd, hb x_3.snd, hs x_3.snd, hd x_3.snd, ())) ∧ Wr
  (x_4 = x_4) ∧ Wr ((0 : Int) = (0 : Int)) ∧ Wr (hl x_3.snd = hl x_3.snd) ∧ Wr (hn x_3.snd = hn x_3.snd) ∧ Wr (ho x_3.snd = ho x_3.snd) ∧ Wr (hb x_3.snd = hb x_3.snd) ∧ Wr (hs x_3.snd = hs x_3.snd) ∧ Wr (hd x_3.snd = hd
  x_3.snd)) (Wr ((0 : Int) ≤ IntKind.wrap IntKind.i64 (x_5.snd + (1 : Int)) ∧ IntKind.wrap IntKind.i64 (x_5.snd + (1 : Int)) ≤ (↑(List.length (failedF (hl x_3.snd, hn x_3.snd, ho x_3.snd, hb x_3.snd, hs x_3.snd, hd
  x_3.snd, ()))) : Int) ∧ x_5.fst = cntA (failedF (hl x_3.snd, hn x_3.snd, ho x_3.snd, hb x_3.snd, hs x_3.snd, hd x_3.snd, ())) (List.getD x.fst (Int.toNat x_4) a0) (IntKind.wrap IntKind.i64 (x_5.snd + (1 : Int)))) ∧ Wr
  (List.length (failedF (hl x_3.snd, hn x_3.snd, ho x_3.snd, hb x_3.snd, hs x_3.snd, hd x_3.snd, ())) - Int.toNat (IntKind.wrap IntKind.i64 (x_5.snd + (1 : Int))) < List.length (failedF (hl x_3.snd, hn x_3.snd, ho
  x_3.snd, hb x_3.snd, hs x_3.snd, hd x_3.snd, ())) - Int.toNat x_5.snd) ∧ Wr (x_5.fst = x_5.fst) ∧ Wr (IntKind.wrap IntKind.i64 (x_5.snd + (1 : Int)) = IntKind.wrap IntKind.i64 (x_5.snd + (1 : Int))) ∧ Wr (x.fst = x.fst)
  ∧ Wr (failedF (hl x_3.snd, hn x_3.snd, ho x_3.snd, hb x_3.snd, hs x_3.snd, hd x_3.snd, ()) = failedF (hl x_3.snd, hn x_3.snd, ho x_3.snd, hb x_3.snd, hs x_3.snd, hd x_3.snd, ())) ∧ Wr (x_4 = x_4) ∧ Wr ((0 : Int) = (0 :
  Int)) ∧ Wr (hl x_3.snd = hl x_3.snd) ∧ Wr (hn x_3.snd = hn x_3.snd) ∧ Wr (ho x_3.snd = ho x_3.snd) ∧ Wr (hb x_3.snd = hb x_3.snd) ∧ Wr (hs x_3.snd = hs x_3.snd) ∧ Wr (hd x_3.snd = hd x_3.snd))) ((Wr ((0 : Int) ≤ (0 :
  Int) ∧ (0 : Int) ≤ (↑(List.length x.fst) : Int) ∧ (0 : Int) = cntA x.fst (List.getD x.fst (Int.toNat x_4) a0) (0 : Int)) ∧ Wr ((0 : Int) = (0 : Int)) ∧ Wr ((0 : Int) = (0 : Int)) ∧ Wr (x.fst = x.fst) ∧ Wr (failedF (hl
  x_3.snd, hn x_3.snd, ho x_3.snd, hb x_3.snd, hs x_3.snd, hd x_3.snd, ()) = failedF (hl x_3.snd, hn x_3.snd, ho x_3.snd, hb x_3.snd, hs x_3.snd, hd x_3.snd, ())) ∧ Wr (x_4 = x_4) ∧ Wr (x_5.fst = x_5.fst) ∧ Wr (hl x_3.snd
  = hl x_3.snd) ∧ Wr (hn x_3.snd = hn x_3.snd) ∧ Wr (ho x_3.snd = ho x_3.snd) ∧ Wr (hb x_3.snd = hb x_3.snd) ∧ Wr (hs x_3.snd = hs x_3.snd) ∧ Wr (hd x_3.snd = hd x_3.snd)) ∧ ∀ (x_6 : Int × Int), Wr ((0 : Int) ≤ x_6.snd ∧
  x_6.snd ≤ (↑(List.length x.fst) : Int) ∧ x_6.fst = cntA x.fst (List.getD x.fst (Int.toNat x_4) a0) x_6.snd) → bcase (Decidable.decide (x_6.snd < (↑(List.length x.fst) : Int))) (Wr ((0 : Int) ≤ x_6.snd) ∧ Wr (x_6.snd <
  (↑(List.length x.fst) : Int)) ∧ Wr (Bool.true = Bool.true) ∧ Wr ((0 : Int) ≤ x_4) ∧ Wr (x_4 < (↑(List.length x.fst) : Int)) ∧ Wr (Bool.true = Bool.true) ∧ bcase (Ty.eqb (Ty.cons (Ty.int IntKind.i8) (Ty.cons (Ty.arr (8 :
  Nat) (Ty.int IntKind.u16)) (Ty.cons (Ty.int IntKind.i64) Ty.unit))) (List.getD x.fst (Int.toNat x_6.snd) (Ty.zero addrT)) (List.getD x.fst (Int.toNat x_4) (Ty.zero addrT))) (Wr ((0 : Int) ≤ IntKind.wrap IntKind.i64
  (x_6.snd + (1 : Int)) ∧ IntKind.wrap IntKind.i64 (x_6.snd + (1 : Int)) ≤ (↑(List.length x.fst) : Int) ∧ IntKind.wrap IntKind.i64 (x_6.fst + (1 : Int)) = cntA x.fst (List.getD x.fst (Int.toNat x_4) a0) (IntKind.wrap
  IntKind.i64 (x_6.snd + (1 : Int)))) ∧ Wr (List.length x.fst - Int.toNat (IntKind.wrap IntKind.i64 (x_6.snd + (1 : Int))) < List.length x.fst - Int.toNat x_6.snd) ∧ Wr (IntKind.wrap IntKind.i64 (x_6.fst + (1 : Int)) =
  IntKind.wrap IntKind.i64 (x_6.fst + (1 : Int))) ∧ Wr (IntKind.wrap IntKind.i64 (x_6.snd + (1 : Int)) = IntKind.wrap IntKind.i64 (x_6.snd + (1 : Int))) ∧ Wr (x.fst = x.fst) ∧ Wr (failedF (hl x_3.snd, hn x_3.snd, ho
  x_3.snd, hb x_3.snd, hs x_3.snd, hd x_3.snd, ()) = failedF (hl x_3.snd, hn x_3.snd, ho x_3.snd, hb x_3.snd, hs x_3.snd, hd x_3.snd, ())) ∧ Wr (x_4 = x_4) ∧ Wr (x_5.fst = x_5.fst) ∧ Wr (hl x_3.snd = hl x_3.snd) ∧ Wr (hn
  x_3.snd = hn x_3.snd) ∧ Wr (ho x_3.snd = ho x_3.snd) ∧ Wr (hb x_3.snd = hb x_3.snd) ∧ Wr (hs x_3.snd = hs x_3.snd) ∧ Wr (hd x_3.snd = hd x_3.snd)) (Wr ((0 : Int) ≤ IntKind.wrap IntKind.i64 (x_6.snd + (1 : Int)) ∧
  IntKind.wrap IntKind.i64 (x_6.snd + (1 : Int)) ≤ (↑(List.length x.fst) : Int) ∧ x_6.fst = cntA x.fst (List.getD x.fst (Int.toNat x_4) a0) (IntKind.wrap IntKind.i64 (x_6.snd + (1 : Int)))) ∧ Wr (List.length x.fst -
  Int.toNat (IntKind.wrap IntKind.i64 (x_6.snd + (1 : Int))) < List.length x.fst - Int.toNat x_6.snd) ∧ Wr (x_6.fst = x_6.fst) ∧ Wr (IntKind.wrap IntKind.i64 (x_6.snd + (1 : Int)) = IntKind.wrap IntKind.i64 (x_6.snd + (1
  : Int))) ∧ Wr (x.fst = x.fst) ∧ Wr (failedF (hl x_3.snd, hn x_3.snd, ho x_3.snd, hb x_3.snd, hs x_3.snd, hd x_3.snd, ()) = failedF (hl x_3.snd, hn x_3.snd, ho x_3.snd, hb x_3.snd, hs x_3.snd, hd x_3.snd, ())) ∧ Wr (x_4
  = x_4) ∧ Wr (x_5.fst = x_5.fst) ∧ Wr (hl x_3.snd = hl x_3.snd) ∧ Wr (hn x_3.snd = hn x_3.snd) ∧ Wr (ho x_3.snd = ho x_3.snd) ∧ Wr (hb x_3.snd = hb x_3.snd) ∧ Wr (hs x_3.snd = hs x_3.snd) ∧ Wr (hd x_3.snd = hd x_3.snd)))
  (bcase (!Decidable.decide (x_5.fst = x_6.fst)) ((Bool.false, ()) = (Bool.true, ())) (Wr ((0 : Int) ≤ IntKind.wrap IntKind.i64 (x_4 + (1 : Int)) ∧ IntKind.wrap IntKind.i64 (x_4 + (1 : Int)) ≤ (↑(List.length x.fst) :
  Int)) ∧ Wr (List.length x.fst - Int.toNat (IntKind.wrap IntKind.i64 (x_4 + (1 : Int))) < List.length x.fst - Int.toNat x_4) ∧ Wr (IntKind.wrap IntKind.i64 (x_4 + (1 : Int)) = IntKind.wrap IntKind.i64 (x_4 + (1 : Int)))
  ∧ Wr (x.fst = x.fst) ∧ Wr (failedF (hl x_3.snd, hn x_3.snd, ho x_3.snd, hb x_3.snd, hs x_3.snd, hd x_3.snd, ()) = failedF (hl x_3.snd, hn x_3.snd, ho x_3.snd, hb x_3.snd, hs x_3.snd, hd x_3.snd, ())) ∧ Wr (hl x_3.snd =
  hl x_3.snd) ∧ Wr (hn x_3.snd = hn x_3.snd) ∧ Wr (ho x_3.snd = ho x_3.snd) ∧ Wr (hb x_3.snd = hb x_3.snd) ∧ Wr (hs x_3.snd = hs x_3.snd) ∧ Wr (hd x_3.snd = hd x_3.snd))))) (Wr (okH (hl x_3.snd, hn x_3.snd, ho x_3.snd, hb
  x_3.snd, hs x_3.snd, hd x_3.snd, ()) = Bool.true) ∧ Wr ((overB (hl x_3.snd, hn x_3.snd, ho x_3.snd, hb x_3.snd, hs x_3.snd, hd x_3.snd, ()) && Decidable.decide ((↑(List.length (failedF (hl x_3.snd, hn x_3.snd, ho
  x_3.snd, hb x_3.snd, hs x_3.snd, hd x_3.snd, ()))) : Int) = (↑(List.length x.fst) : Int)) && Decidable.decide (ho x_3.snd = (0 : Int))) = Bool.true → okH (hl x_3.snd, hn x_3.snd, ho x_3.snd, hb x_3.snd, hs x_3.snd, hd
  x_3.snd, ()) = Bool.true) ∧ Wr ((overB (hl x_3.snd, hn x_3.snd, ho x_3.snd, hb x_3.snd, hs x_3.snd, hd x_3.snd, ()) && Decidable.decide ((↑(List.length (failedF (hl x_3.snd, hn x_3.snd, ho x_3.snd, hb x_3.snd, hs
  x_3.snd, hd x_3.snd, ()))) : Int) = (↑(List.length x.fst) : Int)) && Decidable.decide (ho x_3.snd = (0 : Int)) && mayB (hl x_3.snd, hn x_3.snd, ho x_3.snd, hb x_3.snd, hs x_3.snd, hd x_3.snd, ())) = Bool.true → True) ∧
  (overB (hl x_3.snd, hn x_3.snd, ho x_3.snd, hb x_3.snd, hs x_3.snd, hd x_3.snd, ()) && Decidable.decide ((↑(List.length (failedF (hl x_3.snd, hn x_3.snd, ho x_3.snd, hb x_3.snd, hs x_3.snd, hd x_3.snd, ()))) : Int) =
  (↑(List.length x.fst) : Int)) && Decidable.decide (ho x_3.snd = (0 : Int)) && mayB (hl x_3.snd, hn x_3.snd, ho x_3.snd, hb x_3.snd, hs x_3.snd, hd x_3.snd, ()) && Bool.true, ()) = (Bool.true, ())))))))) := by kernel_rfl
end Go.Proofs.Ytfkfjbppncbkjaa.Ht
namespace Go.Proofs.Ytfkfjbppncbkjaa.Ht
open Go Go.Eng
set_option maxRecDepth 100000
theorem clamp_lo (t : Int) : 0 ≤ clamp t := by unfold clamp; omega
theorem clamp_hi (t : Int) : clamp t ≤ 1073741824 := by unfold clamp; omega

theorem v53 : Vc g53 300 Try.f53 (cClone 60 32 addrT) := by
  constructor
  rw [v53_eq]
  simp only [Wr_iff, bcase_iff, true_and, and_true, decide_eq_true_eq, decide_eq_false_iff_not, Bool.and_eq_true, Bool.and_eq_false_iff, Bool.or_eq_true, Bool.or_eq_false_iff, Bool.not_eq_true', Bool.not_eq_false', Option.map_some, Option.getD_some, Option.isSome_some, Option.isSome_map, imp_self, nilL, noneO]
  intro x hx b hb
  exact ⟨hb, fun _ => ⟨by simp; omega, rfl⟩⟩
theorem v70 : Vc g70 300 Try.f70 (cClone 3 8 I64) := by
  constructor
  rw [v70_eq]
  simp only [Wr_iff, bcase_iff, true_and, and_true, decide_eq_true_eq, decide_eq_false_iff_not, Bool.and_eq_true, Bool.and_eq_false_iff, Bool.or_eq_true, Bool.or_eq_false_iff, Bool.not_eq_true', Bool.not_eq_false', Option.map_some, Option.getD_some, Option.isSome_some, Option.isSome_map, imp_self, nilL, noneO]
  intro x hx b hb
  exact ⟨hb, fun _ => ⟨by simp; omega, rfl⟩⟩
theorem v67 : Vc g67 300 Try.f67 cOf := by
  constructor
  rw [v67_eq]
  simp only [Wr_iff, bcase_iff, true_and, and_true, decide_eq_true_eq, decide_eq_false_iff_not, Bool.and_eq_true, Bool.and_eq_false_iff, Bool.or_eq_true, Bool.or_eq_false_iff, Bool.not_eq_true', Bool.not_eq_false', Option.map_some, Option.getD_some, Option.isSome_some, Option.isSome_map, imp_self, nilL, noneO]
  simp [clamp]
theorem v69 : Vc g69 300 Try.f69 cOf := by
  constructor
  rw [v69_eq]
  simp only [Wr_iff, bcase_iff, true_and, and_true, decide_eq_true_eq, decide_eq_false_iff_not, Bool.and_eq_true, Bool.and_eq_false_iff, Bool.or_eq_true, Bool.or_eq_false_iff, Bool.not_eq_true', Bool.not_eq_false', Option.map_some, Option.getD_some, Option.isSome_some, Option.isSome_map, imp_self, nilL, noneO]
  simp
theorem v41 : Vc g41 300 Try.f41 cOf := by
  constructor
  rw [v41_eq]
  simp only [Wr_iff, bcase_iff, true_and, and_true, decide_eq_true_eq, decide_eq_false_iff_not, Bool.and_eq_true, Bool.and_eq_false_iff, Bool.or_eq_true, Bool.or_eq_false_iff, Bool.not_eq_true', Bool.not_eq_false', Option.map_some, Option.getD_some, Option.isSome_some, Option.isSome_map, imp_self, nilL, noneO]
  intro x _
  have e : ∀ t : Int, (t < 0 → clamp t = 0) ∧ (¬ t < 0 → t > 1073741824 → clamp t = 1073741824) ∧ (¬ t < 0 → ¬ t > 1073741824 → clamp t = t) := by unfold clamp; omega
  obtain ⟨e1, e2, e3⟩ := e x.1
  exact ⟨fun h => by rw [e1 h], fun h => ⟨fun g => by rw [e2 h g], fun g => by rw [e3 h g]⟩⟩
theorem v55 : Vc g55 300 Try.f55 cOld := by
  constructor
  rw [v55_eq]
  simp only [Wr_iff, bcase_iff, true_and, and_true, decide_eq_true_eq, decide_eq_false_iff_not, Bool.and_eq_true, Bool.and_eq_false_iff, Bool.or_eq_true, Bool.or_eq_false_iff, Bool.not_eq_true', Bool.not_eq_false', Option.map_some, Option.getD_some, Option.isSome_some, Option.isSome_map, imp_self, nilL, noneO]
  intro x _
  have h1 := clamp_lo x.1
  have h2 := clamp_hi x.1
  have h3 := clamp_lo x.2.1
  have h4 := clamp_hi x.2.1
  rw [wrap_id (by omega) (by omega)]
  rfl
theorem v54 : Vc g54 300 Try.f54 cLeft := by
  constructor
  rw [v54_eq]
  simp only [Wr_iff, bcase_iff, true_and, and_true, decide_eq_true_eq, decide_eq_false_iff_not, Bool.and_eq_true, Bool.and_eq_false_iff, Bool.or_eq_true, Bool.or_eq_false_iff, Bool.not_eq_true', Bool.not_eq_false', Option.map_some, Option.getD_some, Option.isSome_some, Option.isSome_map, imp_self, nilL, noneO]
  rintro ⟨(_ | y), u⟩ hx
  · cases hx
  · simp [leftB]; rfl
theorem v34 : Vc g34 300 Try.f34 cBegin := by
  constructor
  rw [v34_eq]
  simp only [Wr_iff, bcase_iff, true_and, and_true, decide_eq_true_eq, decide_eq_false_iff_not, Bool.and_eq_true, Bool.and_eq_false_iff, Bool.or_eq_true, Bool.or_eq_false_iff, Bool.not_eq_true', Bool.not_eq_false', Option.map_some, Option.getD_some, Option.isSome_some, Option.isSome_map, imp_self, nilL, noneO]
  intro x hx
  exact ⟨by omega, rfl⟩
theorem v35 : Vc g35 300 Try.f35 cReady := by
  constructor
  rw [v35_eq]
  simp only [Wr_iff, bcase_iff, true_and, and_true, decide_eq_true_eq, decide_eq_false_iff_not, Bool.and_eq_true, Bool.and_eq_false_iff, Bool.or_eq_true, Bool.or_eq_false_iff, Bool.not_eq_true', Bool.not_eq_false', Option.map_some, Option.getD_some, Option.isSome_some, Option.isSome_map, imp_self, nilL, noneO]
  intro x hx
  simp [readyB]
theorem okH_out {h : H} (hx : okH h = true) : (hl h).length ≤ 1000000 ∧ (hb h).length ≤ 1000000 ∧ -1000000 ≤ ho h ∧ ho h ≤ 1000000 ∧ hn h ≤ 1000000 := by
  simpa [okH, and_assoc] using hx
theorem v36 : Vc g36 300 Try.f36 cStart := by
  constructor
  rw [v36_eq]
  simp only [Wr_iff, bcase_iff, true_and, and_true, decide_eq_true_eq, decide_eq_false_iff_not, Bool.and_eq_true, Bool.and_eq_false_iff, Bool.or_eq_true, Bool.or_eq_false_iff, Bool.not_eq_true', Bool.not_eq_false', Option.map_some, Option.getD_some, Option.isSome_some, Option.isSome_map, imp_self, nilL, noneO]
  intro x hx
  obtain ⟨k1, k2, k3, k4, k5⟩ := okH_out hx
  dsimp only [hn, ho, hl, hb] at k1 k2 k3 k4
  refine ⟨fun h => ?_, fun h => ?_⟩
  · rw [start, h]; rfl
  · have h' : 0 ≤ hn x.1 ∧ hn x.1 < (hl x.1).length := by simpa [leftB] using h
    dsimp only [hn, ho, hl, hb] at h'
    have e1 : IntKind.wrap IntKind.i64 (x.1.2.1 + 1) = x.1.2.1 + 1 := wrap_id (by omega) (by omega)
    have e2 : IntKind.wrap IntKind.i64 (x.1.2.1 + 1 - 1) = x.1.2.1 := by rw [wrap_id (by omega) (by omega)]; omega
    have e3 : IntKind.wrap IntKind.i64 (x.1.2.2.1 + 1) = x.1.2.2.1 + 1 := wrap_id (by omega) (by omega)
    rw [e1, e2, e3, start, h]
    exact ⟨h'.1, h'.2, rfl⟩
theorem v38 : Vc g38 300 Try.f38 cTime := by
  constructor
  rw [v38_eq]
  simp only [Wr_iff, bcase_iff, true_and, and_true, decide_eq_true_eq, decide_eq_false_iff_not, Bool.and_eq_true, Bool.and_eq_false_iff, Bool.or_eq_true, Bool.or_eq_false_iff, Bool.not_eq_true', Bool.not_eq_false', Option.map_some, Option.getD_some, Option.isSome_some, Option.isSome_map, imp_self, nilL, noneO]
  intro x hx
  exact ⟨fun _ => trivial, rfl⟩
theorem v40 : Vc g40 300 Try.f40 cOver := by
  constructor
  rw [v40_eq]
  simp only [Wr_iff, bcase_iff, true_and, and_true, decide_eq_true_eq, decide_eq_false_iff_not, Bool.and_eq_true, Bool.and_eq_false_iff, Bool.or_eq_true, Bool.or_eq_false_iff, Bool.not_eq_true', Bool.not_eq_false', Option.map_some, Option.getD_some, Option.isSome_some, Option.isSome_map, imp_self, nilL, noneO]
  intro x hx
  rfl
theorem failed_step (h : H) (i : Int) (h0 : 0 ≤ i) (h1 : i < (hb h).length) :
    failedF (mkH (hl h) 0 0 ((hb h).take (i + 1).toNat) 0 false) = failedF (mkH (hl h) 0 0 ((hb h).take i.toNat) 0 false) ++
      (if 0 ≤ (hb h).getD i.toNat 0 ∧ (hb h).getD i.toNat 0 < (hl h).length then [(hl h).getD ((hb h).getD i.toNat 0).toNat a0] else []) := by
  unfold failedF
  simp only [mkH, hb, hl]
  rw [take_succ _ i 0 h0 h1, List.filterMap_append]
  congr 1
  simp only [List.filterMap_cons, List.filterMap_nil, Bool.and_eq_true, decide_eq_true_eq]
  split <;> rename_i heq <;> split at heq <;> simp_all
theorem v42 : Vc g42 300 Try.f42 cFailed := by
  constructor
  rw [v42_eq]
  simp only [Wr_iff, bcase_iff, true_and, and_true, decide_eq_true_eq, decide_eq_false_iff_not, Bool.and_eq_true, Bool.and_eq_false_iff, Bool.or_eq_true, Bool.or_eq_false_iff, Bool.not_eq_true', Bool.not_eq_false', Option.map_some, Option.getD_some, Option.isSome_some, Option.isSome_map, imp_self, nilL, noneO]
  intro x
  generalize x.fst = h
  intro hx
  obtain ⟨k1, k2, k3, k4, k5⟩ := okH_out hx
  refine ⟨⟨by simp, by simp, by simp, rfl⟩, fun z hz => ?_⟩
  obtain ⟨i0, i1, hn, hg⟩ := hz
  refine ⟨fun hi => ?_, fun hi => ?_⟩
  · have st := failed_step h z.1 i0 hi
    have iw : IntKind.wrap IntKind.i64 (z.1 + 1) = z.1 + 1 := wrap_id (by omega) (by omega)
    rw [iw]
    have hlen : (hb h).length = List.length h.2.2.2.1 := rfl
    refine ⟨i0, hi, fun hc => ⟨hc.1, hc.2, by simp; omega, ⟨⟨by simp only; omega, by simp only; omega, by simp; omega, ?_⟩, by omega⟩⟩, fun hc => ⟨⟨by simp only; omega, by simp only; omega, by simp only; omega, ?_⟩, by omega⟩⟩
    · rw [st, if_pos hc, hg]; rfl
    · rw [st, if_neg (fun e => hc.elim (fun g => g e.1) (fun g => g e.2)), hg, List.append_nil]
  · have : z.1.toNat = (hb h).length := by dsimp only [hb] at *; omega
    rw [hg, this, List.take_length]
    rfl
theorem okLost_out {h : H} {l : List Int} (hx : okLost h l = true) : (hl h).length ≤ 1000000 ∧ l.length ≤ 1000 ∧ (hb h).length ≤ 1000 ∧ -1000 ≤ ho h ∧ ho h ≤ 1000000 ∧ hn h ≤ 1000000 := by
  simp only [okLost, okH, Bool.and_eq_true, decide_eq_true_eq] at hx
  omega
theorem watch_step {bad : List Int} {x : WatchS} (hx : WatchInv bad x) (hb : bad.length ≤ 1000) (hi : x.i < bad.length) :
    WatchInv bad ⟨x.i + 1, (x.m.1 + 1, updF I64 I64 x.m.2 (bad.getD x.i.toNat 0) (IntKind.wrap IntKind.i64 ((x.m.2 (bad.getD x.i.toNat 0)).getD 0 + 1)))⟩ := by
  have h0 := hx.i0
  have hn := hx.n
  refine ⟨by simp only; omega, by simp only; omega, by simp only; omega, fun k => ?_⟩
  have hf := hx.f
  have hc : ∀ k, (List.count k (bad.take x.i.toNat) : Int) ≤ 1000 := fun k => by
    have := List.count_le_length (a := k) (l := bad.take x.i.toNat)
    rw [List.length_take] at this
    omega
  simp only
  rw [take_succ _ _ 0 h0 hi, List.count_append]
  have hk := hf k
  unfold updF
  by_cases e : k = bad.getD x.i.toNat 0
  · subst e
    have := hc (bad.getD x.i.toNat 0)
    simp only [Ty.eqb, decide_true, cond_true, Option.getD_some]
    rw [hk, wrap_id (by omega) (by omega)]
    simp
  · have e2 : Ty.eqb I64 k (bad.getD x.i.toNat 0) = false := decide_eq_false e
    rw [e2, cond_false, hk]
    have : List.count k [bad.getD x.i.toNat 0] = 0 := by
      rw [List.count_eq_zero]
      simpa using e
    rw [this]; simp
theorem lost_same {h0 : H} {l : List Int} {x : LostS} (hx : LostInv h0 l x) (hi : x.i < l.length) (hc : (l.getD x.i.toNat 0 < 0 ∨ l.getD x.i.toNat 0 ≥ hn x.h) ∨ (x.m.2 (l.getD x.i.toNat 0)).getD 0 > 0) : LostInv h0 l ⟨x.i + 1, x.h, x.m⟩ := by
  obtain ⟨i0, i1, n, bl, oo, nn, f, go⟩ := hx
  refine ⟨by simp only; omega, by simp only; omega, by simp only; omega, by simp only; omega, by simp only; omega, nn, f, ?_⟩
  rw [drop_cons l x.i 0 i0 hi, List.foldl_cons] at go
  simp only
  rw [← go]
  congr 1
  unfold lost1
  rw [if_pos]
  simp only [Bool.or_eq_true, decide_eq_true_eq]
  rcases hc with (h | h) | h
  · exact .inl (.inl h)
  · exact .inl (.inr h)
  · exact .inr (List.contains_iff_mem.2 ((f _).2.2.1 h))
theorem lost_on {h0 : H} {l : List Int} {x : LostS} (hx : LostInv h0 l x) (hl' : l.length ≤ 1000) (hb' : (hb h0).length ≤ 1000) (hi : x.i < l.length) {d : Bool}
    (hc : (¬ l.getD x.i.toNat 0 < 0 ∧ ¬ l.getD x.i.toNat 0 ≥ hn x.h) ∧ ¬ (x.m.2 (l.getD x.i.toNat 0)).getD 0 > 0) (hd' : d = if l.getD x.i.toNat 0 = hn x.h - 1 then hd x.h || leftB x.h else hd x.h) :
    LostInv h0 l ⟨x.i + 1, mkH (hl x.h) (hn x.h) (ho x.h - 1) (hb x.h ++ [l.getD x.i.toNat 0]) (hs x.h) d, (x.m.1 + 1, updF I64 I64 x.m.2 (l.getD x.i.toNat 0) (IntKind.wrap IntKind.i64 ((x.m.2 (l.getD x.i.toNat 0)).getD 0 + 1)))⟩ := by
  obtain ⟨i0, i1, n, bl, oo, nn, f, go⟩ := hx
  refine ⟨by simp only; omega, by simp only; omega, by simp only; omega, by simp only [hb, mkH, List.length_append, List.length_singleton] at *; push_cast; omega, by simp only [ho, mkH] at *; omega, nn, fun k => ?_, ?_⟩
  · obtain ⟨f1, f2, f3⟩ := f k
    obtain ⟨g1, g2, g3⟩ := f (l.getD x.i.toNat 0)
    simp only [hb, mkH, List.length_append, List.length_singleton]
    unfold updF
    by_cases e : k = l.getD x.i.toNat 0
    · subst e
      simp only [Ty.eqb, decide_true, cond_true, Option.getD_some]
      dsimp only [hb] at *
      rw [wrap_id (by omega) (by omega)]
      exact ⟨by omega, by push_cast; omega, fun _ => List.mem_append_right _ (List.mem_singleton.2 rfl), fun _ => by omega⟩
    · have e2 : Ty.eqb I64 k (l.getD x.i.toNat 0) = false := decide_eq_false e
      rw [e2, cond_false]
      dsimp only [hb] at *
      refine ⟨f1, by push_cast; omega, ?_⟩
      rw [f3]
      simp
      intro h
      exact absurd h (by simpa using e)
  · rw [drop_cons l x.i 0 i0 hi, List.foldl_cons] at go
    simp only
    rw [← go]
    congr 1
    unfold lost1
    have hnc : (decide (l.getD x.i.toNat 0 < 0) || decide (hn x.h ≤ l.getD x.i.toNat 0) || (hb x.h).contains (l.getD x.i.toNat 0)) = false := by
      simp only [Bool.or_eq_false_iff, decide_eq_false_iff_not]
      refine ⟨⟨hc.1.1, hc.1.2⟩, ?_⟩
      rw [Bool.eq_false_iff]
      intro h
      exact hc.2 ((f _).2.2.2 (List.contains_iff_mem.1 h))
    rw [hnc, hd']
    rfl
theorem v37 : Vc g37 300 Try.f37 cLost := by
  constructor
  rw [v37_eq]
  simp only [Wr_iff, bcase_iff, true_and, and_true, decide_eq_true_eq, decide_eq_false_iff_not, Bool.and_eq_true, Bool.and_eq_false_iff, Bool.or_eq_true, Bool.or_eq_false_iff, Bool.not_eq_true', Bool.not_eq_false', Option.map_some, Option.getD_some, Option.isSome_some, Option.isSome_map, imp_self, nilL, noneO]
  intro x hx
  obtain ⟨k1, k2, k3, k4, k5, k6⟩ := okLost_out hx
  have eH : mkH x.fst.fst x.fst.snd.fst x.fst.snd.snd.fst x.fst.snd.snd.snd.fst x.fst.snd.snd.snd.snd.fst x.fst.snd.snd.snd.snd.snd.fst = x.fst := rfl
  rw [eH]
  refine ⟨by dsimp only [hb] at k3; omega, ⟨⟨by simp, by simp, by simp, by simp⟩, by simp⟩, fun z hz => ⟨fun hi => ?_, fun hi => ?_⟩⟩
  · have i0 := hz.i0
    have hm := hz.n
    dsimp only [hb] at k3
    have iw : IntKind.wrap IntKind.i64 (z.i + 1) = z.i + 1 := wrap_id (by omega) (by omega)
    rw [iw]
    exact ⟨i0, hi, by unfold maxLen; omega, watch_step hz k3 hi, by omega, by omega⟩
  · have e : z.i.toNat = List.length x.fst.snd.snd.snd.fst := by have := hz.i1; have := hz.i0; omega
    have hf := hz.f
    rw [e] at hf
    simp only [List.take_length] at hf
    refine ⟨⟨⟨by simp, by simp, ?_, by simp, by simp, rfl, fun k => ?_, by simp⟩, by omega⟩, fun y hy => ⟨fun hj => ?_, fun hj => ?_⟩⟩
    · have := hz.n; have := hz.i1; dsimp only [hb]; omega
    · have := hf k
      have := List.count_le_length (a := k) (l := x.fst.snd.snd.snd.fst)
      have hp := List.count_pos_iff (a := k) (l := x.fst.snd.snd.snd.fst)
      dsimp only [hb]
      rw [← hp]
      omega
    · have j0 := hy.i0
      have hm := hy.n
      have hbl := hy.bl
      have hoo := hy.oo
      have iw : IntKind.wrap IntKind.i64 (y.i + 1) = y.i + 1 := wrap_id (by omega) (by omega)
      have hnn := hy.nn
      have ow : IntKind.wrap IntKind.i64 (ho y.h - 1) = ho y.h - 1 := wrap_id (by omega) (by omega)
      rw [iw, ow]
      refine ⟨j0, hj, fun hc => ⟨lost_same hy hj hc, by omega, by omega⟩, fun hc => ⟨by unfold maxLen; omega, by simp; omega, fun he => ⟨fun _ => trivial, lost_on hy k2 k3 hj hc ?_, by omega, by omega⟩, fun he => ⟨lost_on hy k2 k3 hj hc ?_, by omega, by omega⟩⟩⟩
      · have hpos : 0 < hn y.h := Int.lt_of_le_of_lt (Int.not_lt.1 hc.1.1) (Int.not_le.1 hc.1.2)
        have nw : IntKind.wrap IntKind.i64 (hn y.h - 1) = hn y.h - 1 := wrap_id (by omega) (by omega)
        rw [nw] at he
        rw [if_pos he]
        rfl
      · have hpos : 0 < hn y.h := Int.lt_of_le_of_lt (Int.not_lt.1 hc.1.1) (Int.not_le.1 hc.1.2)
        have nw : IntKind.wrap IntKind.i64 (hn y.h - 1) = hn y.h - 1 := wrap_id (by omega) (by omega)
        rw [nw] at he
        rw [if_neg he]
    · have := hy.go
      have e2 : y.i.toNat = List.length x.snd.fst := by have := hy.i1; have := hy.i0; omega
      rw [e2, List.drop_length] at this
      rw [lostF, ← this]
      rfl
theorem may_mem {n : Int} {bad : List Int} {x : MayS} (hx : MayInv n bad x) (k : Int) (h0 : 0 ≤ k) : ((x.m.2 k).getD 0 > 0 ∨ (k < 64 ∧ x.seen.getD k.toNat false = true)) ↔ k ∈ bad.take x.i.toNat := by
  obtain ⟨f1, f2, f3, f4⟩ := hx.f k
  by_cases h : k < 64
  · have := hx.s k h0 h
    have := f4 h
    constructor
    · rintro (g | g)
      · omega
      · exact (hx.s k h0 h).1 g.2
    · intro g
      exact .inr ⟨h, (hx.s k h0 h).2 g⟩
  · have := f3 (by omega)
    constructor
    · rintro (g | g)
      · exact this.1 g
      · omega
    · intro g
      exact .inl (this.2 g)
theorem may_go {n : Int} {bad : List Int} {x : MayS} (hx : MayInv n bad x) (hi : x.i < bad.length) {k : Int} (hk : bad.getD x.i.toNat 0 = k) :
    rangeOk n [] bad = (decide (0 ≤ k) && decide (k < n) && !(bad.take x.i.toNat).contains k && rangeOk n (bad.take (x.i + 1).toNat) (bad.drop (x.i + 1).toNat)) := by
  have h0 := hx.i0
  rw [← hx.go, drop_cons bad x.i 0 h0 hi, rangeOk, take_succ bad x.i 0 h0 hi, hk]
theorem may_set {n : Int} {bad : List Int} {x : MayS} (hx : MayInv n bad x) (hi : x.i < bad.length) {k : Int} (hk : bad.getD x.i.toNat 0 = k) (h0 : 0 ≤ k) (h1 : k < n) (hn : k ∉ bad.take x.i.toNat) (h64 : k < 64) :
    MayInv n bad ⟨x.i + 1, x.seen.set k.toNat true, x.m⟩ := by
  have hgo := may_go hx hi hk
  obtain ⟨i0, i1, len, nm, s, f, go⟩ := hx
  refine ⟨by simp only; omega, by simp only; omega, by simp only [List.length_set]; exact len, by simp only; omega, fun j j0 j1 => ?_, fun j => ?_, ?_⟩
  · simp only
    rw [take_succ bad x.i 0 i0 hi, hk, List.mem_append, List.mem_singleton, ← s j j0 j1, List.getD_eq_getElem?_getD, List.getD_eq_getElem?_getD, List.getElem?_set]
    by_cases e : k.toNat = j.toNat
    · have : j = k := by omega
      subst this
      simp [len, show j.toNat < 64 by omega]
    · have : j ≠ k := by omega
      simp [e, this]
  · obtain ⟨f1, f2, f3, f4⟩ := f j
    simp only
    refine ⟨f1, by omega, fun hj => ?_, f4⟩
    rw [take_succ bad x.i 0 i0 hi, hk, List.mem_append, List.mem_singleton, f3 hj]
    constructor
    · exact .inl
    · rintro (g | g)
      · exact g
      · omega
  · simp only
    rw [hgo]
    have : (bad.take x.i.toNat).contains k = false := by rw [Bool.eq_false_iff]; intro h; exact hn (List.contains_iff_mem.1 h)
    simp [h0, h1, this, hn]
theorem may_map {n : Int} {bad : List Int} {x : MayS} (hx : MayInv n bad x) (hi : x.i < bad.length) (hb : bad.length ≤ 1000000) {k : Int} (hk : bad.getD x.i.toNat 0 = k) (h0 : 0 ≤ k) (h1 : k < n) (hn : k ∉ bad.take x.i.toNat) (h64 : ¬ k < 64) :
    MayInv n bad ⟨x.i + 1, x.seen, (x.m.1 + 1, updF I64 I64 x.m.2 k (IntKind.wrap IntKind.i64 ((x.m.2 k).getD 0 + 1)))⟩ := by
  have hgo := may_go hx hi hk
  obtain ⟨i0, i1, len, nm, s, f, go⟩ := hx
  refine ⟨by simp only; omega, by simp only; omega, len, by simp only; push_cast; omega, fun j j0 j1 => ?_, fun j => ?_, ?_⟩
  · simp only
    rw [take_succ bad x.i 0 i0 hi, hk, List.mem_append, List.mem_singleton, s j j0 j1]
    constructor
    · exact .inl
    · rintro (g | g)
      · exact g
      · omega
  · obtain ⟨f1, f2, f3, f4⟩ := f j
    simp only
    unfold updF
    rw [take_succ bad x.i 0 i0 hi, hk, List.mem_append, List.mem_singleton]
    by_cases e : j = k
    · subst e
      simp only [Ty.eqb, decide_true, cond_true, Option.getD_some]
      rw [wrap_id (by omega) (by omega)]
      exact ⟨by omega, by omega, fun _ => ⟨fun _ => .inr trivial, fun _ => by omega⟩, fun h => absurd h h64⟩
    · have e2 : Ty.eqb I64 j k = false := decide_eq_false e
      rw [e2, cond_false]
      refine ⟨f1, by omega, fun hj => ?_, f4⟩
      rw [f3 hj]
      simp [e]
  · simp only
    rw [hgo]
    have : (bad.take x.i.toNat).contains k = false := by rw [Bool.eq_false_iff]; intro h; exact hn (List.contains_iff_mem.1 h)
    simp [h0, h1, this, hn]
theorem v39 : Vc g39 300 Try.f39 cMay := by
  constructor
  rw [v39_eq]
  simp only [Wr_iff, bcase_iff, true_and, and_true, decide_eq_true_eq, decide_eq_false_iff_not, Bool.and_eq_true, Bool.and_eq_false_iff, Bool.or_eq_true, Bool.or_eq_false_iff, Bool.not_eq_true', Bool.not_eq_false', Option.map_some, Option.getD_some, Option.isSome_some, Option.isSome_map, imp_self, nilL, noneO]
  intro x hx
  obtain ⟨k1, k2, k3, k4, k5⟩ := okH_out hx
  have e1 : x.fst.snd.fst = hn x.fst := rfl
  have e2 : x.fst.snd.snd.snd.fst = hb x.fst := rfl
  have e3 : x.fst.fst = hl x.fst := rfl
  have e4 : x.fst.snd.snd.fst = ho x.fst := rfl
  rw [e1, e2, e3, e4]
  generalize x.fst = h at *
  refine ⟨⟨⟨by simp, by simp, by simp, by simp, fun k a b => by rw [List.getD_eq_getElem?_getD, List.getElem?_replicate, if_pos (by omega)]; simp, fun k => by simp, by simp⟩, by simp, by omega⟩, fun y hy => ⟨fun hi => ?_, fun hi => ?_⟩⟩
  · have i0 := hy.i0
    have nm := hy.nm
    have len := hy.len
    have iw : IntKind.wrap IntKind.i64 (y.i + 1) = y.i + 1 := wrap_id (by omega) (by omega)
    have hgo := may_go hy hi rfl
    have hmem := may_mem hy (List.getD (hb h) y.i.toNat 0)
    have hset := may_set hy hi rfl
    have hmap := may_map hy hi k2 rfl
    rw [iw]
    generalize List.getD (hb h) y.i.toNat 0 = k at *
    refine ⟨i0, hi, fun _ => len, fun hc => Int.not_lt.1 hc.1.1.1, fun hc => by have := hc.2; omega, fun hc => ?_, fun hc => ?_⟩
    · have : rangeOk (hn h) [] (hb h) = false := by
        rw [hgo]
        by_cases c0 : 0 ≤ k
        · by_cases c1 : k < hn h
          · have hm : k ∈ (hb h).take y.i.toNat := by
              refine (hmem c0).1 ?_
              rcases hc with ((g | g) | g) | g
              · omega
              · omega
              · exact .inl g
              · exact .inr g
            simp [hm]
          · simp [c1]
        · simp [c0]
      simp [mayB, this]
    · have c0 : 0 ≤ k := by have := hc.1.1.1; omega
      have c1 : k < hn h := by have := hc.1.1.2; omega
      have hm : k ∉ (hb h).take y.i.toNat := by
        intro hm
        rcases (hmem c0).2 hm with g | g
        · exact hc.1.2 g
        · rcases hc.2 with q | q
          · exact q g.1
          · rw [g.2] at q; cases q
      exact ⟨fun h64 => ⟨len, c0, by omega, hset c0 c1 hm h64, by omega, by simp [len], by omega⟩, fun h64 => ⟨by unfold maxLen; omega, hmap c0 c1 hm h64, by omega, by omega, by omega⟩⟩
  · have hgo := hy.go
    have : y.i.toNat = (hb h).length := by have := hy.i1; have := hy.i0; omega
    rw [this, List.drop_length, rangeOk] at hgo
    have hlen : (0:Int) ≤ (hb h).length := by omega
    unfold mayB
    rw [← hgo]
    congr 1
    by_cases c0 : 0 ≤ hn h
    · rw [wrap_id (by omega) (by omega)]
      simp
    · simp [c0]
end Go.Proofs.Ytfkfjbppncbkjaa.Ht
namespace Go.Proofs.Ytfkfjbppncbkjaa.Ht
open Go Go.Eng
theorem nodup_len : ∀ (n : Nat) (l : List Int), l.Nodup → (∀ k ∈ l, 0 ≤ k ∧ k < n) → l.length ≤ n
  | 0, l, _, h => by
    cases l with
    | nil => simp
    | cons a r => have := h a List.mem_cons_self; omega
  | n + 1, l, hd, h => by
    have h1 := nodup_len n (l.filter fun k => decide (k ≠ (n : Int))) (hd.filter _) (fun k hk => by
      simp only [List.mem_filter, decide_eq_true_eq] at hk
      have := h k hk.1
      have := hk.2
      omega)
    have h2 : l.length = (l.filter fun k => decide (k ≠ (n : Int))).length + l.count (n : Int) := by
      rw [List.count_eq_countP, ← List.countP_eq_length_filter, List.length_eq_countP_add_countP (p := fun k => decide (k ≠ (n : Int)))]
      congr 1
      apply List.countP_congr
      intro k _
      simp
    have h3 : l.count (n : Int) ≤ 1 := List.nodup_iff_count.1 hd _
    omega
theorem rangeOk_of (n : Int) : ∀ (r seen : List Int), (∀ k ∈ r, 0 ≤ k ∧ k < n ∧ k ∉ seen) → r.Nodup → rangeOk n seen r = true
  | [], _, _, _ => rfl
  | k :: r, seen, h, hd => by
    obtain ⟨h0, h1, h2⟩ := h k List.mem_cons_self
    rw [List.nodup_cons] at hd
    have ih := rangeOk_of n r (seen ++ [k]) (fun j hj => by
      obtain ⟨g0, g1, g2⟩ := h j (List.mem_cons_of_mem _ hj)
      refine ⟨g0, g1, fun hm => ?_⟩
      rcases List.mem_append.1 hm with q | q
      · exact g2 q
      · rw [List.mem_singleton] at q
        exact hd.1 (q ▸ hj)) hd.2
    simp [rangeOk, h0, h1, h2, ih]
theorem eqbA (x : A) : addrT.eqb x x = true := by
  obtain ⟨f, ⟨a, b, c, d, e, g, i, j, u⟩, p, v⟩ := x
  simp [Ty.eqb, Ty.arr]
section
variable {l : List A} {N K : Int} {x : PS}
theorem PInv.bound (hp : PInv l N K x) : ((hb x.h).length : Int) ≤ x.started := by
  have := nodup_len x.started.toNat (hb x.h) hp.nd (fun k hk => by have := hp.ok k hk; have := hp.st0; omega)
  have := hp.st0
  omega
theorem PInv.okH (hp : PInv l N K x) (hl : l.length ≤ 40) : okH x.h = true := by
  have h1 := hp.bound
  have h2 := hp.st1
  have h3 := hp.out
  have h4 := hp.st0
  have e1 := hp.hl
  have e2 := hp.hn
  have e3 := hp.ho
  simp only [Ht.okH, Bool.and_eq_true, decide_eq_true_eq]
  rw [e1, e2, e3]
  omega
theorem PInv.okLost (hp : PInv l N K x) (hl : l.length ≤ 40) (n : Int) : okLost x.h [n] = true := by
  have h1 := hp.bound
  have h2 := hp.st1
  have h3 := hp.out
  have h4 := hp.st0
  have e3 := hp.ho
  simp only [Ht.okLost, Bool.and_eq_true, decide_eq_true_eq]
  rw [hp.okH hl, e3]
  simp
  omega
theorem PInv.ready (hp : PInv l N K x) (hN : N ≤ 1000000) {g now : Int} (hg : 0 ≤ g ∧ g ≤ 1000) (h0 : 0 ≤ now ∧ now ≤ 1000000) :
    readyB x.h g now = (decide (x.started < l.length) && (x.due || decide (x.started > 0) && decide (now ≥ x.since + g))) := by
  have h4 := hp.st0
  have h5 := hp.s0
  have h6 := hp.s1
  have h7 := hp.now1
  unfold readyB leftB oldB
  rw [hp.hl, hp.hn, hp.hd]
  congr 1
  · simp [h4]
  · congr 1
    by_cases hs : 0 < x.started
    · rw [hp.hs hs]
      have : clamp now = now := by unfold clamp; omega
      have e2 : clamp x.since = x.since := by unfold clamp; omega
      have e3 : clamp g = g := by unfold clamp; omega
      have e4 : clamp (x.since + g) = x.since + g := by unfold clamp; omega
      rw [this, e2, e3, e4]
    · simp [hs]
theorem PInv.start (hp : PInv l N K x) {now N' K' : Int} (h0 : x.now ≤ now) (h1 : now ≤ N') (hN : N' ≤ 1000000) (hK : K ≤ K') (hs : x.started < l.length) :
    Ht.start x.h now = (mkH l (x.started + 1) (x.out + 1) (hb x.h) now false, x.started, l.getD x.started.toNat a0, 0, ()) ∧
      PInv l N' K' ⟨x.i, now, x.started + 1, now, x.out + 1, false, x.gone, mkH l (x.started + 1) (x.out + 1) (hb x.h) now false⟩ := by
  have h4 := hp.st0
  have h5 := hp.now0
  have h6 := hp.out
  have h7 := hp.len
  constructor
  · unfold Ht.start
    have : leftB x.h = true := by simp [leftB, hp.hl, hp.hn, h4, hs]
    have e2 : clamp now = now := by unfold clamp; omega
    rw [if_pos this, hp.hl, hp.hn, hp.ho, e2]
  · exact ⟨hp.i0, by simp only; omega, h1, rfl, rfl, rfl, rfl, by simp only; omega, by simp only; omega, by simp only; omega, by simp only; omega, fun _ => rfl, by simp only [hb, mkH] at *; omega, by simp only [hb, mkH] at *; omega, hp.gl, hp.g, fun k hk => by have := hp.ok k hk; simp only; omega, hp.nd⟩
theorem PInv.now' (hp : PInv l N K x) {now N' K' : Int} (h0 : x.now ≤ now) (h1 : now ≤ N') (hK : K ≤ K') : PInv l N' K' { x with now := now } := by
  have h4 := hp.now0
  have h5 := hp.s1
  have h7 := hp.len
  exact ⟨hp.i0, by simp only; omega, h1, hp.hl, hp.hn, hp.ho, hp.hd, hp.st0, hp.st1, hp.s0, by simp only; omega, hp.hs, hp.out, by simp only; omega, hp.gl, hp.g, hp.ok, hp.nd⟩
theorem PInv.lostSame (hp : PInv l N K x) {n : Int} (h : (n < 0 ∨ n ≥ x.started) ∨ x.gone.getD n.toNat false = true) : lostF x.h [n] = x.h := by
  show lost1 x.h n = x.h
  unfold lost1
  rw [if_pos]
  simp only [Bool.or_eq_true, decide_eq_true_eq]
  rw [hp.hn]
  rcases h with (h | h) | h
  · exact .inl (.inl h)
  · exact .inl (.inr h)
  · by_cases h0 : 0 ≤ n
    · by_cases h1 : n < l.length
      · exact .inr (List.contains_iff_mem.2 ((hp.g n h0 h1).1 h))
      · have := hp.st1; exact .inl (.inr (by omega))
    · exact .inl (.inl (by omega))
theorem PInv.lostOn (hp : PInv l N K x) {n now N' : Int} (h0 : x.now ≤ now) (hN : now ≤ N') (c0 : 0 ≤ n) (c1 : n < x.started) (cg : x.gone.getD n.toNat false = false) :
    PInv l N' (K + 1) ⟨x.i, now, x.started, x.since, x.out - 1, x.due || (decide (n = x.started - 1) && decide (x.started < l.length)), x.gone.set n.toNat true, lostF x.h [n]⟩ := by
  have h4 := hp.st0
  have h5 := hp.now0
  have h6 := hp.out
  have h7 := hp.len
  have h8 := hp.st1
  have h9 := hp.s1
  have hnm : n ∉ hb x.h := fun hm => by have := (hp.g n c0 (by omega)).2 hm; rw [cg] at this; cases this
  have e : lostF x.h [n] = mkH l x.started (x.out - 1) (hb x.h ++ [n]) (Ht.hs x.h) (x.due || (decide (n = x.started - 1) && decide (x.started < l.length))) := by
    show lost1 x.h n = _
    unfold lost1
    have : (decide (n < 0) || decide (Ht.hn x.h ≤ n) || (hb x.h).contains n) = false := by
      rw [hp.hn]
      simp [hnm]
      omega
    rw [this, hp.hl, hp.hn, hp.ho, hp.hd]
    simp only [Bool.false_eq_true, if_false]
    congr 6
    unfold leftB
    rw [hp.hl, hp.hn]
    by_cases hc : n = x.started - 1
    · simp [hc, h4]
    · simp [hc]
  rw [e]
  refine ⟨hp.i0, by simp only; omega, hN, rfl, rfl, rfl, rfl, h4, h8, hp.s0, by simp only; omega, hp.hs, by simp only [hb, mkH, List.length_append, List.length_singleton] at *; push_cast; omega, by simp only [hb, mkH, List.length_append, List.length_singleton] at *; push_cast; omega, by simp only [List.length_set]; exact hp.gl, fun k k0 k1 => ?_, fun k hk => ?_, ?_⟩
  · simp only [hb, mkH]
    rw [List.mem_append, List.mem_singleton, ← hp.g k k0 k1, List.getD_eq_getElem?_getD, List.getD_eq_getElem?_getD, List.getElem?_set]
    have hg := hp.gl
    by_cases q : n.toNat = k.toNat
    · have : k = n := by omega
      subst this
      simp [hg, show k.toNat < l.length by omega]
    · have : k ≠ n := by omega
      simp [q, this]
  · simp only [hb, mkH, List.mem_append, List.mem_singleton] at hk
    rcases hk with hk | hk
    · exact hp.ok k hk
    · simp only; omega
  · simp only [hb, mkH]
    rw [List.nodup_append]
    refine ⟨hp.nd, by simp, fun a ha b hb => ?_⟩
    rw [List.mem_singleton] at hb
    rintro rfl
    exact hnm (hb ▸ ha)
theorem PInv.time (hp : PInv l N K x) {now N' K' : Int} (h0 : x.now ≤ now) (hN : now ≤ N') (hK : K ≤ K') : PInv l N' K' ⟨x.i, now, x.started, x.since, x.out, x.due || decide (x.started < l.length), x.gone, timeF x.h⟩ := by
  have h4 := hp.st0
  have h5 := hp.now0
  have h7 := hp.len
  have h9 := hp.s1
  refine ⟨hp.i0, by simp only; omega, hN, hp.hl, hp.hn, hp.ho, ?_, h4, hp.st1, hp.s0, by simp only; omega, hp.hs, hp.out, by simp only [hb, timeF, mkH] at *; omega, hp.gl, hp.g, hp.ok, hp.nd⟩
  show (Ht.hd x.h || leftB x.h) = _
  rw [hp.hd]
  unfold leftB
  rw [hp.hl, hp.hn]
  simp [h4]
theorem PInv.may (hp : PInv l N K x) : mayB x.h = true := by
  have h4 := hp.st0
  have h6 := hp.out
  have h8 := hp.st1
  unfold mayB
  rw [hp.hl, hp.hn, hp.ho, rangeOk_of x.started (hb x.h) [] (fun k hk => by have := hp.ok k hk; simp; omega) hp.nd]
  simp
  omega
theorem PInv.over (hp : PInv l N K x) : overB x.h = (decide (x.started = l.length) && decide (x.out = 0)) := by
  have h1 := hp.bound
  have h6 := hp.out
  have h8 := hp.st1
  unfold overB
  rw [hp.hl, hp.hn, hp.ho]
  congr 1
  · exact decide_eq_decide.2 (by omega)
  · exact decide_eq_decide.2 (by omega)
theorem pStart (l : List A) : PInv l 0 0 ⟨0, 0, 0, 0, 0, true, List.replicate l.length false, begin l⟩ :=
  ⟨by simp, by simp, by simp, rfl, rfl, rfl, rfl, by simp, by simp, by simp, by simp, fun h => by simp at h, by simp [begin, hb, mkH], by simp [begin, hb, mkH], by simp, fun k k0 k1 => by
    rw [List.getD_eq_getElem?_getD, List.getElem?_replicate, if_pos (by omega)]; simp [begin, hb, mkH], by simp [begin, hb, mkH], by simp [begin, hb, mkH]⟩
end
end Go.Proofs.Ytfkfjbppncbkjaa.Ht
namespace Go.Proofs.Ytfkfjbppncbkjaa.Ht
open Go Go.Eng
set_option maxRecDepth 100000
theorem v52 : Vc g52 300 Try.f52 cTwo := by
  constructor
  rw [v52_eq]
  simp only [Wr_iff, bcase_iff, true_and, and_true, decide_eq_true_eq, decide_eq_false_iff_not, Bool.and_eq_true, Bool.and_eq_false_iff, Bool.or_eq_true, Bool.or_eq_false_iff, Bool.not_eq_true', Bool.not_eq_false', Option.map_some, Option.getD_some, Option.isSome_some, Option.isSome_map, imp_self, nilL, noneO]
  intros; rfl
theorem etaH (h : H) : (hl h, hn h, ho h, hb h, hs h, hd h, ()) = h := rfl
theorem v9 : Vc g9 300 Try.f9 cPaces := by
  constructor
  rw [v9_eq]
  simp only [Wr_iff, bcase_iff, true_and, and_true, decide_eq_true_eq, decide_eq_false_iff_not, Bool.and_eq_true, Bool.and_eq_false_iff, Bool.or_eq_true, Bool.or_eq_false_iff, Bool.not_eq_true', Bool.not_eq_false', Option.map_some, Option.getD_some, Option.isSome_some, Option.isSome_map, imp_self, nilL, noneO]
  simp only [etaH]
  intro x
  generalize x.1 = l
  generalize x.2.1 = st
  generalize x.2.2.1 = g
  intro _
  refine ⟨fun _ => trivial, fun hg => ?_⟩
  have hl : l.length ≤ 40 := by omega
  have hst : st.length ≤ 100 := by omega
  refine ⟨by omega, by omega, by omega, by omega, by omega, ⟨hl, hst, by omega, by omega, by simp, by simpa using pStart l⟩, fun y hy => ⟨fun hi => ?_, fun _ => trivial⟩⟩
  obtain ⟨_, _, g0, g1, _, hp⟩ := hy
  have i0 := hp.i0
  generalize st.getD y.i.toNat stepT.zero = a
  have n0 := hp.now0
  have n1 := hp.now1
  have iw : IntKind.wrap IntKind.i64 (y.i + 1) = y.i + 1 := wrap_id (by omega) (by omega)
  refine ⟨i0, hi, fun _ => i0, fun _ => hi, fun _ => trivial, fun _ => trivial, fun _ => trivial, fun hb => ?_⟩
  have nw : IntKind.wrap IntKind.i64 (y.now + a.2.2.1) = y.now + a.2.2.1 := wrap_id (by omega) (by omega)
  have s0 := hp.s0
  have s1 := hp.s1
  have sw : IntKind.wrap IntKind.i64 (y.since + g) = y.since + g := wrap_id (by omega) (by omega)
  have hr := hp.ready (by omega) ⟨g0, g1⟩ (now := y.now + a.2.2.1) ⟨by omega, by omega⟩
  simp only [iw, nw, sw, hr, beq_self_eq_true]
  have h4 := hp.st0
  have h5 := hp.st1
  have hbd := hp.bound
  have ho := hp.out
  have stw : y.started < l.length → IntKind.wrap IntKind.i64 (y.started + 1) = y.started + 1 := fun _ => wrap_id (by omega) (by omega)
  have sm : IntKind.wrap IntKind.i64 (y.started - 1) = y.started - 1 := wrap_id (by omega) (by omega)
  have ow : IntKind.wrap IntKind.i64 (y.out + 1) = y.out + 1 := wrap_id (by omega) (by omega)
  have om : IntKind.wrap IntKind.i64 (y.out - 1) = y.out - 1 := wrap_id (by omega) (by omega)
  simp only [sm, ow, om]
  have okh := hp.okH hl
  have okl := hp.okLost hl a.2.1
  have cut : ∀ z : PS, z.i = y.i → PInv l (1000 * (y.i + 1)) (y.i + 1) z → pCut l st g z := fun z e hz => ⟨hl, hst, g0, g1, by omega, by rw [e]; exact hz⟩
  have same : PInv l (1000 * (y.i + 1)) (y.i + 1) ⟨y.i, y.now + a.2.2.1, y.started, y.since, y.out, y.due, y.gone, y.h⟩ := hp.now' (by omega) (by omega) (by omega)
  have loop : ∀ z : PS, z.i = y.i → PInv l (1000 * (y.i + 1)) (y.i + 1) z → pLoop l st g ⟨y.i + 1, z.now, z.started, z.since, z.out, z.due, z.gone, z.h⟩ := by
    intro z e hz
    refine ⟨hl, hst, g0, g1, by simp only; omega, ?_⟩
    exact ⟨by simp only; omega, hz.now0, hz.now1, hz.hl, hz.hn, hz.ho, hz.hd, hz.st0, hz.st1, hz.s0, hz.s1, hz.hs, hz.out, hz.len, hz.gl, hz.g, hz.ok, hz.nd⟩
  have hgl := hp.gl
  refine ⟨i0, hi, okh, fun h => (by cases h), fun _ => ⟨i0, hi, ⟨i0, hi, fun _ => ⟨fun _ => ⟨loop ⟨y.i, y.now + a.2.2.1, y.started, y.since, y.out, y.due, y.gone, y.h⟩ rfl same, by omega⟩, fun hm => ?_⟩, fun _ => ⟨fun _ => ⟨okl, fun hc => by omega, fun hc => by omega, fun hc => ?_, fun hc => ⟨by omega, by omega, ?_⟩⟩, fun _ => ⟨fun _ => ⟨okh, ?_⟩, fun _ => cut _ rfl same⟩⟩⟩, ?_⟩⟩
  · obtain ⟨e, hs⟩ := hp.start (now := y.now + a.2.2.1) (N' := 1000 * (y.i + 1)) (K' := y.i + 1) (by omega) (by omega) (by omega) (by omega) hm.1
    rw [e, stw hm.1]
    refine ⟨okh, fun _ => h4, fun _ => hm.1, fun _ => trivial, fun hc => ?_, fun _ => cut _ rfl hs⟩
    exfalso
    rcases hc with (h | h) | h
    · exact h rfl
    · exact h rfl
    · rw [show (addrT.zero : A) = a0 from rfl] at h
      have h' : addrT.eqb (l.getD y.started.toNat a0) (l.getD y.started.toNat a0) = false := h
      rw [eqbA] at h'
      cases h'
  · rw [hp.lostSame hc]
    exact cut _ rfl same
  · exact cut _ rfl (hp.lostOn (by omega) (by omega) (by omega) (by omega) hc.2)
  · exact cut _ rfl (hp.time (by omega) (by omega) (by omega))
  · rintro z ⟨⟨_, _, _, _, hzi, hz⟩, e⟩
    have e1 := hz.may
    have e2 := hz.over
    have e3 := hz.ho
    have e4 := hz.hn
    have zw : IntKind.wrap IntKind.i64 (z.i + 1) = z.i + 1 := wrap_id (by omega) (by omega)
    rw [e] at hz
    refine ⟨hz.okH hl, fun _ => hz.okH hl, fun hc => ?_, fun _ => ?_⟩
    · exfalso
      rcases hc with ((h | h) | h) | h
      · rw [e1] at h; cases h
      · exact h e3
      · exact h e4
      · rw [e2] at h; simp at h
    · rw [zw, e]
      exact ⟨loop z e hz, by omega⟩
end Go.Proofs.Ytfkfjbppncbkjaa.Ht
namespace Go.Proofs.Ytfkfjbppncbkjaa.Ht
open Go Go.Eng
set_option maxRecDepth 100000
theorem etaA (h : H) : (hl h, hn h, ho h, hb h, hs h, hd h, ()) = h := rfl
section
variable {l : List A}
theorem AInv.okh {x : Int × H} (hx : AInv l x) : okH x.2 = true := by
  have h1 := hx.l40
  have h2 := hx.i0
  have h3 := hx.i1
  simp only [okH, Bool.and_eq_true, decide_eq_true_eq]
  rw [hx.hl, hx.hn, hx.ho, hx.hb]
  simp
  omega
theorem okTime (h : H) : okH (timeF h) = okH h := rfl
theorem AInv.on {x : Int × H} (hx : AInv l x) (hi : x.1 < l.length) (now : Int) :
    (start (timeF x.2) now).2.2.2.1 = 0 ∧ (start (timeF x.2) now).1.2.2.2.2.1 = clamp now ∧ AInv l (x.1 + 1, (start (timeF x.2) now).1) := by
  have h2 := hx.i0
  have : leftB (timeF x.2) = true := by
    show (decide (0 ≤ Ht.hn x.2) && decide (Ht.hn x.2 < (Ht.hl x.2).length)) = true
    rw [hx.hn, hx.hl]
    simp [h2, hi]
  unfold start
  rw [if_pos this]
  refine ⟨rfl, rfl, ⟨by simp only; omega, by simp only; omega, hx.l40, hx.hl, ?_, ?_, hx.hb⟩⟩
  · show Ht.hn x.2 + 1 = _
    rw [hx.hn]
  · show Ht.ho x.2 + 1 = _
    rw [hx.ho]
theorem AInv.off {x : Int × H} (hx : AInv l x) (hi : ¬ x.1 < l.length) (now : Int) : (start x.2 now).2.2.2.1 = 2 ∧ QInv l x.2 := by
  have h3 := hx.i1
  have : leftB x.2 = false := by
    unfold leftB
    rw [hx.hn, hx.hl]
    simp
    omega
  refine ⟨by unfold start; rw [this]; rfl, hx.l40, hx.hl, by rw [hx.hn]; omega, by rw [hx.ho, hx.hb]; simp; omega, by rw [hx.hb]; simp, by rw [hx.hb]; simp⟩
theorem QInv.len {h : H} (hq : QInv l h) : (hb h).length ≤ l.length := nodup_len l.length (hb h) hq.nd hq.ok
theorem QInv.okLost {h : H} (hq : QInv l h) (ns : List Int) (hn' : ns.length ≤ 2) : okLost h ns = true := by
  have h1 := hq.len
  have h2 := hq.l40
  simp only [Ht.okLost, okH, Bool.and_eq_true, decide_eq_true_eq]
  rw [hq.hl, hq.hn, hq.ho]
  omega
theorem QInv.okh {h : H} (hq : QInv l h) : okH h = true := by
  have h1 := hq.len
  have h2 := hq.l40
  simp only [okH, Bool.and_eq_true, decide_eq_true_eq]
  rw [hq.hl, hq.hn, hq.ho]
  omega
theorem QInv.lost1 {h : H} (hq : QInv l h) (n : Int) : QInv l (lost1 h n) ∧ (∀ k ∈ hb h, k ∈ hb (Ht.lost1 h n)) ∧ (0 ≤ n → n < l.length → n ∈ hb (Ht.lost1 h n)) := by
  unfold Ht.lost1
  split
  · rename_i hc
    refine ⟨hq, fun k hk => hk, fun h0 h1 => ?_⟩
    rw [hq.hn] at hc
    simp only [Bool.or_eq_true, decide_eq_true_eq] at hc
    rcases hc with (g | g) | g
    · omega
    · omega
    · exact List.contains_iff_mem.1 g
  · rename_i hc
    rw [hq.hn] at hc
    simp only [Bool.or_eq_true, decide_eq_true_eq, not_or] at hc
    obtain ⟨⟨c0, c1⟩, c2⟩ := hc
    have c2 : n ∉ hb h := fun hm => c2 (List.contains_iff_mem.2 hm)
    have ho := hq.ho
    refine ⟨⟨hq.l40, hq.hl, hq.hn, ?_, fun k hk => ?_, ?_⟩, fun k hk => List.mem_append_left _ hk, fun _ _ => List.mem_append_right _ (List.mem_singleton.2 rfl)⟩
    · simp only [Ht.ho, mkH, hb, List.length_append, List.length_singleton] at *
      push_cast
      omega
    · rcases List.mem_append.1 hk with g | g
      · exact hq.ok k g
      · rw [List.mem_singleton] at g; omega
    · simp only [hb, mkH]
      rw [List.nodup_append]
      refine ⟨hq.nd, by simp, fun a ha b hb => ?_⟩
      rw [List.mem_singleton] at hb
      rintro rfl
      exact c2 (hb ▸ ha)
theorem QInv.lost {h : H} (hq : QInv l h) : ∀ (ns : List Int), QInv l (lostF h ns) ∧ (∀ k ∈ hb h, k ∈ hb (lostF h ns))
  | [] => ⟨hq, fun k hk => hk⟩
  | n :: r => by
    obtain ⟨h1, h2, _⟩ := hq.lost1 n
    obtain ⟨h3, h4⟩ := QInv.lost h1 r
    exact ⟨h3, fun k hk => h4 k (h2 k hk)⟩
theorem failed_map {h : H} (hq : QInv l h) : failedF h = (hb h).map fun n => l.getD n.toNat a0 := by
  unfold failedF
  rw [hq.hl]
  have hok := hq.ok
  generalize hb h = b at hok
  induction b with
  | nil => rfl
  | cons k r ih =>
    have := hok k List.mem_cons_self
    rw [List.filterMap_cons, List.map_cons]
    simp only [this.1, this.2, decide_true, Bool.and_self, if_true]
    rw [ih fun j hj => hok j (List.mem_cons_of_mem _ hj)]
theorem range_nodup (n : Nat) : ((List.range n).map fun (k : Nat) => (k : Int)).Nodup := by
  refine List.Pairwise.map (R := fun a b => a ≠ b) (S := fun a b => a ≠ b) _ (fun a b hab e => hab (by omega)) List.nodup_range
theorem failed_perm {h : H} (hq : QInv l h) (hall : ∀ k, 0 ≤ k → k < (l.length : Int) → k ∈ hb h) : (failedF h).Perm l := by
  have hp : (hb h).Perm ((List.range l.length).map fun (k : Nat) => (k : Int)) := by
    refine (List.perm_ext_iff_of_nodup hq.nd (range_nodup _)).2 fun k => ⟨fun hk => ?_, fun hk => ?_⟩
    · obtain ⟨h0, h1⟩ := hq.ok k hk
      refine List.mem_map.2 ⟨k.toNat, List.mem_range.2 (by omega), by omega⟩
    · obtain ⟨j, hj, rfl⟩ := List.mem_map.1 hk
      rw [List.mem_range] at hj
      exact hall _ (by omega) (by omega)
  rw [failed_map hq]
  refine (hp.map _).trans ?_
  rw [List.map_map]
  refine List.Perm.of_eq ?_
  apply List.ext_getElem
  · simp
  · intro i h1 h2
    simp [List.getD_eq_getElem?_getD, h2]
theorem cntA_step (f : List A) (a : A) (k : Int) (h0 : 0 ≤ k) (h1 : k < f.length) : cntA f a (k + 1) = cntA f a k + if eqA (f.getD k.toNat a0) a then 1 else 0 := by
  unfold cntA
  rw [take_succ f k a0 h0 h1, List.countP_append, List.countP_singleton]
  split <;> simp
theorem cntA_le (f : List A) (a : A) (k : Int) : 0 ≤ cntA f a k ∧ cntA f a k ≤ f.length := by
  unfold cntA
  have := List.countP_le_length (p := fun y => eqA y a) (l := f.take k.toNat)
  rw [List.length_take] at this
  omega
theorem cntA_all (f : List A) (a : A) (k : Int) (h : k = f.length) : cntA f a k = f.countP fun y => eqA y a := by
  subst h
  unfold cntA
  rw [Int.toNat_natCast, List.take_length]
end
theorem v10 : Vc g10 300 Try.f10 cAll := by
  constructor
  rw [v10_eq]
  simp only [Wr_iff, bcase_iff, true_and, and_true, decide_eq_true_eq, decide_eq_false_iff_not, Bool.and_eq_true, Bool.and_eq_false_iff, Bool.or_eq_true, Bool.or_eq_false_iff, Bool.not_eq_true', Bool.not_eq_false', Option.map_some, Option.getD_some, Option.isSome_some, Option.isSome_map, imp_self, nilL, noneO]
  simp only [etaA]
  intro x
  generalize x.1 = l
  generalize x.2.1 = st
  generalize x.2.2.1 = now
  intro _
  refine ⟨fun _ => trivial, fun hg => ?_⟩
  have hl40 : l.length ≤ 40 := by omega
  refine ⟨by omega, ⟨by simp, by simp, hl40, rfl, rfl, rfl, rfl⟩, fun y hy => ⟨fun hi => ?_, fun hi => ?_⟩⟩
  · obtain ⟨e1, e2, e3⟩ := hy.on hi now
    have := hy.i0
    have iw : IntKind.wrap IntKind.i64 (y.1 + 1) = y.1 + 1 := wrap_id (by omega) (by omega)
    rw [iw]
    exact ⟨hy.okh, hy.okh, fun _ => trivial, fun h => h.elim (fun h => absurd e1 h) (fun h => absurd e2 h), fun _ => ⟨e3, by omega⟩⟩
  obtain ⟨e1, e2⟩ := hy.off hi now
  refine ⟨hy.okh, fun h => absurd e1 h, fun _ => ⟨⟨by omega, by omega, by omega, e2⟩, fun z hz => ⟨fun hj => ?_, fun hj => ?_⟩⟩⟩
  · obtain ⟨z0, z1, z2, zq⟩ := hz
    have iw : IntKind.wrap IntKind.i64 (z.1 + 1) = z.1 + 1 := wrap_id (by omega) (by omega)
    rw [iw]
    exact ⟨z0, hj, z0, hj, zq.okLost _ (by simp), ⟨by omega, by omega, z2, (zq.lost _).1⟩, by omega⟩
  obtain ⟨_, _, _, zq⟩ := hz
  refine ⟨⟨by omega, by omega, zq, fun k h0 h1 => by omega⟩, fun w hw => ⟨fun hk => ?_, fun hk => ?_⟩⟩
  · obtain ⟨w0, w1, wq, wm⟩ := hw
    have iw : IntKind.wrap IntKind.i64 (w.1 + 1) = w.1 + 1 := wrap_id (by omega) (by omega)
    rw [iw]
    obtain ⟨q1, q2, q3⟩ := wq.lost1 w.1
    refine ⟨wq.okLost _ (by simp), ⟨by omega, by omega, q1, fun k h0 h1 => ?_⟩, by omega⟩
    by_cases hkw : k = w.1
    · subst hkw; exact q3 h0 hk
    · exact q2 k (wm k h0 (by omega))
  obtain ⟨w0, w1, wq, wm⟩ := hw
  have hp := failed_perm wq fun k h0 h1 => wm k h0 (by omega)
  have hlen := hp.length_eq
  refine ⟨wq.okh, ⟨by omega, by omega⟩, fun i hi2 => ⟨fun hil => ⟨⟨by omega, by omega, by simp [cntA]⟩, fun e he => ⟨fun hel => ?_, fun hel => ⟨⟨by omega, by omega, by simp [cntA]⟩, fun f hf => ⟨fun hfl => ?_, fun hfl => ?_⟩⟩⟩⟩, fun hil => ?_⟩⟩
  · obtain ⟨p0, p1, p2⟩ := he
    have iw : IntKind.wrap IntKind.i64 (e.2 + 1) = e.2 + 1 := wrap_id (by omega) (by omega)
    have hc := cntA_le (failedF w.2) (l.getD i.toNat a0) e.2
    have cw : IntKind.wrap IntKind.i64 (e.1 + 1) = e.1 + 1 := wrap_id (by omega) (by omega)
    have st := cntA_step (failedF w.2) (l.getD i.toNat a0) e.2 p0 hel
    have hq : ∀ b : Bool, ((Ty.int IntKind.i8).cons ((Ty.arr 8 (Ty.int IntKind.u16)).cons ((Ty.int IntKind.i64).cons Ty.unit))).eqb ((failedF w.2).getD e.2.toNat addrT.zero) (l.getD i.toNat addrT.zero) = b → eqA ((failedF w.2).getD e.2.toNat a0) (l.getD i.toNat a0) = b := fun b h => h
    rw [iw, cw, p2]
    refine ⟨p0, hel, hi2.1, hil, fun hc => ⟨⟨by omega, by omega, ?_⟩, by omega⟩, fun hc => ⟨⟨by omega, by omega, ?_⟩, by omega⟩⟩
    · rw [st, if_pos (hq _ hc)]
    · rw [st, hq _ hc]; simp
  · obtain ⟨p0, p1, p2⟩ := hf
    have iw : IntKind.wrap IntKind.i64 (f.2 + 1) = f.2 + 1 := wrap_id (by omega) (by omega)
    have hc := cntA_le l (l.getD i.toNat a0) f.2
    have cw : IntKind.wrap IntKind.i64 (f.1 + 1) = f.1 + 1 := wrap_id (by omega) (by omega)
    have st := cntA_step l (l.getD i.toNat a0) f.2 p0 hfl
    have hq : ∀ b : Bool, ((Ty.int IntKind.i8).cons ((Ty.arr 8 (Ty.int IntKind.u16)).cons ((Ty.int IntKind.i64).cons Ty.unit))).eqb (l.getD f.2.toNat addrT.zero) (l.getD i.toNat addrT.zero) = b → eqA (l.getD f.2.toNat a0) (l.getD i.toNat a0) = b := fun b h => h
    rw [iw, cw, p2]
    refine ⟨p0, hfl, hi2.1, hil, fun hc => ⟨⟨by omega, by omega, ?_⟩, by omega⟩, fun hc => ⟨⟨by omega, by omega, ?_⟩, by omega⟩⟩
    · rw [st, if_pos (hq _ hc)]
    · rw [st, hq _ hc]; simp
  · have iw : IntKind.wrap IntKind.i64 (i + 1) = i + 1 := wrap_id (by omega) (by omega)
    rw [iw]
    refine ⟨fun hne => ?_, fun _ => ⟨⟨by omega, by omega⟩, by omega⟩⟩
    exfalso
    apply hne
    rw [he.2.2, hf.2.2, cntA_all _ _ _ (by have := he.2.1; omega), cntA_all _ _ _ (by have := hf.2.1; omega)]
    exact congrArg _ (hp.countP_eq _)
  · have hbl : (hb w.2).length = l.length := by
      have := failed_map wq
      rw [this, List.length_map] at hlen
      exact hlen
    have ho := wq.ho
    have hov : overB w.2 = true := by
      unfold overB
      rw [wq.hl, wq.hn, ho]
      simp
      omega
    have hm : mayB w.2 = true := by
      unfold mayB
      rw [wq.hl, wq.hn, ho, rangeOk_of l.length (hb w.2) [] (fun k hk => by have := wq.ok k hk; simp; omega) wq.nd]
      simp
    refine ⟨wq.okh, fun _ => wq.okh, fun _ => trivial, ?_⟩
    have h0 : Ht.ho w.2 = 0 := by rw [ho, hbl]; omega
    simp only [hov, hm, hlen, decide_true, Bool.and_self, Bool.and_true, Bool.true_and]
    simp only [h0, decide_true]
end Go.Proofs.Ytfkfjbppncbkjaa.Ht
namespace Go.Proofs.Ytfkfjbppncbkjaa.Ht
open Go Go.Eng
set_option maxRecDepth 100000
theorem val67 : Valid Try.prog 67 cOf := mkValid Tb.mix Tb.tab_ok Tb.eqs_ok g67 rfl allV_nil allI_nil Try.func67 (by kernel_rfl) v67
theorem val69 : Valid Try.prog 69 cOf := mkValid Tb.mix Tb.tab_ok Tb.eqs_ok g69 rfl (allV_cons val67 allV_nil) allI_nil Try.func69 (by kernel_rfl) v69
theorem val41 : Valid Try.prog 41 cOf := mkValid Tb.mix Tb.tab_ok Tb.eqs_ok g41 rfl allV_nil allI_nil Try.func41 (by kernel_rfl) v41
theorem val55 : Valid Try.prog 55 cOld := mkValid Tb.mix Tb.tab_ok Tb.eqs_ok g55 rfl (allV_cons val67 allV_nil) (allI_cons Try.func68 (by kernel_rfl) allI_nil) Try.func55 (by kernel_rfl) v55
theorem val54 : Valid Try.prog 54 cLeft := mkValid Tb.mix Tb.tab_ok Tb.eqs_ok g54 rfl allV_nil allI_nil Try.func54 (by kernel_rfl) v54
theorem val53 : Valid Try.prog 53 (cClone 60 32 addrT) := mkValid Tb.mix Tb.tab_ok Tb.eqs_ok g53 rfl allV_nil allI_nil Try.func53 (by kernel_rfl) v53
theorem val70 : Valid Try.prog 70 (cClone 3 8 I64) := mkValid Tb.mix Tb.tab_ok Tb.eqs_ok g70 rfl allV_nil allI_nil Try.func70 (by kernel_rfl) v70
theorem val52 : Valid Try.prog 52 cTwo := mkValid Tb.mix Tb.tab_ok Tb.eqs_ok g52 rfl allV_nil allI_nil Try.func52 (by kernel_rfl) v52
theorem val34 : Valid Try.prog 34 cBegin := mkValid Tb.mix Tb.tab_ok Tb.eqs_ok g34 rfl (allV_cons val53 allV_nil) allI_nil Try.func34 (by kernel_rfl) v34
theorem val35 : Valid Try.prog 35 cReady := mkValid Tb.mix Tb.tab_ok Tb.eqs_ok g35 rfl (allV_cons val54 (allV_cons val55 allV_nil)) allI_nil Try.func35 (by kernel_rfl) v35
theorem val36 : Valid Try.prog 36 cStart := mkValid Tb.mix Tb.tab_ok Tb.eqs_ok g36 rfl (allV_cons val54 (allV_cons val69 allV_nil)) (allI_cons Try.func56 (by kernel_rfl) allI_nil) Try.func36 (by kernel_rfl) v36
theorem val38 : Valid Try.prog 38 cTime := mkValid Tb.mix Tb.tab_ok Tb.eqs_ok g38 rfl (allV_cons val54 allV_nil) (allI_cons Try.func59 (by kernel_rfl) allI_nil) Try.func38 (by kernel_rfl) v38
theorem val37 : Valid Try.prog 37 cLost := mkValid Tb.mix Tb.tab_ok Tb.eqs_ok g37 rfl (allV_cons val54 (allV_cons val70 allV_nil)) (allI_cons Try.func57 (by kernel_rfl) (allI_cons Try.func58 (by kernel_rfl) (allI_cons Try.func59 (by kernel_rfl) allI_nil))) Try.func37 (by kernel_rfl) v37
theorem val39 : Valid Try.prog 39 cMay := mkValid Tb.mix Tb.tab_ok Tb.eqs_ok g39 rfl allV_nil allI_nil Try.func39 (by kernel_rfl) v39
theorem val40 : Valid Try.prog 40 cOver := mkValid Tb.mix Tb.tab_ok Tb.eqs_ok g40 rfl allV_nil allI_nil Try.func40 (by kernel_rfl) v40
theorem val42 : Valid Try.prog 42 cFailed := mkValid Tb.mix Tb.tab_ok Tb.eqs_ok g42 rfl allV_nil allI_nil Try.func42 (by kernel_rfl) v42
theorem v33B : vcB g33 300 Try.f33 cWakes.r (cWakes.F ()) = true := by kernel_rfl
theorem v33 : Vc g33 300 Try.f33 cWakes := ⟨vc_of_B v33B⟩
theorem val33 : Valid Try.prog 33 cWakes := mkValid Tb.mix Tb.tab_ok Tb.eqs_ok g33 rfl (allV_cons val34 (allV_cons val35 (allV_cons val36 (allV_cons val37 (allV_cons val40 (allV_cons val42 (allV_cons val52 allV_nil))))))) allI_nil Try.func33 (by kernel_rfl) v33
theorem val9 : Valid Try.prog 9 cPaces := mkValid Tb.mix Tb.tab_ok Tb.eqs_ok g9 rfl (allV_cons val33 (allV_cons val34 (allV_cons val35 (allV_cons val36 (allV_cons val37 (allV_cons val38 (allV_cons val39 (allV_cons val40 allV_nil)))))))) allI_nil Try.func9 (by kernel_rfl) v9
theorem val10 : Valid Try.prog 10 cAll := mkValid Tb.mix Tb.tab_ok Tb.eqs_ok g10 rfl (allV_cons val33 (allV_cons val34 (allV_cons val36 (allV_cons val37 (allV_cons val38 (allV_cons val39 (allV_cons val40 (allV_cons val41 (allV_cons val42 allV_nil))))))))) allI_nil Try.func10 (by kernel_rfl) v10
end Go.Proofs.Ytfkfjbppncbkjaa.Ht

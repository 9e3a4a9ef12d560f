/-
  A text of mine, of several parts: Zd8Vc, ZdP20, ZdP21, ZdP22, Zd8V.
-/
import Derived.Test.YtfhlceooobabcaaGreatDoorZaa
import Derived.Test.YtfhlceooobabcaaGreatDoorZab
import Derived.Test.YtfhlceooobabcaaGreatDoorZac
import Derived.Test.YtfhlceooobabcaaGreatDoorZad
import Derived.Test.YtfhlceooobabcaaGreatDoorZae
set_option linter.all false
namespace Go.Proofs.YtfhlceooobabcaaGreatDoor.Wd
open Go Go.Eng Go.Lb Go.Ad
set_option maxRecDepth 100000
theorem v63_eq : vcFn g63 300 Tryz.f63 ((cClone 47 32 AdT)) = ( ∀ (x : List (Int × (Int × Int × Int × Int × Int × Int × Int × Int × Unit) × Int × Unit) × Unit), Wr (Decidable.decide (List.length x.fst * (32 : Nat) ≤ (140737488355328 : Nat)) = Bool.true) → ∀ (b : Bool), Wr (b =
  Bool.true → x.fst = nilL (Int × (Int × Int × Int × Int × Int × Int × Int × Int × Unit) × Int × Unit)) → bcase b (x.fst = nilL (Int × (Int × Int × Int × Int × Int × Int × Int × Int × Unit) × Int × Unit)) (Wr
  ((List.length (nilL (Int × (Int × Int × Int × Int × Int × Int × Int × Int × Unit) × Int × Unit)) + List.length x.fst) * (32 : Nat) ≤ (140737488355328 : Nat)) ∧ nilL (Int × (Int × Int × Int × Int × Int × Int × Int × Int
  × Unit) × Int × Unit) ++ x.fst = x.fst)) := by kernel_rfl
theorem v73_eq : vcFn g73 300 Tryz.f73 ((cClip LookT)) = ( ∀ (x : List (Int × ByteArray × Int × Bool × Unit) × Unit), Wr True → Wr ((0 : Int) ≤ (0 : Int)) ∧ Wr ((0 : Int) ≤ (↑(List.length x.fst) : Int)) ∧ Wr ((↑(List.length x.fst) : Int) ≤ (↑(List.length x.fst) : Int)) ∧ Wr
  ((↑(List.length x.fst) : Int) = (↑(List.length x.fst) : Int)) ∧ (List.drop (Int.toNat (0 : Int)) (List.take (Int.toNat (↑(List.length x.fst) : Int)) x.fst), ()) = x) := by kernel_rfl
theorem v74_eq : vcFn g74 300 Tryz.f74 ((cClone 129 40 LookT)) = ( ∀ (x : List (Int × ByteArray × Int × Bool × Unit) × Unit), Wr (Decidable.decide (List.length x.fst * (40 : Nat) ≤ (140737488355328 : Nat)) = Bool.true) → ∀ (b : Bool), Wr (b = Bool.true → x.fst = nilL (Int × ByteArray ×
  Int × Bool × Unit)) → bcase b (x.fst = nilL (Int × ByteArray × Int × Bool × Unit)) (Wr ((List.length (nilL (Int × ByteArray × Int × Bool × Unit)) + List.length x.fst) * (40 : Nat) ≤ (140737488355328 : Nat)) ∧ nilL (Int
  × ByteArray × Int × Bool × Unit) ++ x.fst = x.fst)) := by kernel_rfl
theorem v76_eq : vcFn g76 300 Tryz.f76 cNth = ( ∀ (x : Int × Int × Unit), Wr ((Decidable.decide ((0 : Int) ≤ x.fst) && Decidable.decide (x.fst ≤ (1000000 : Int))) = Bool.true) → (Min.min (Max.max x.snd.fst (0 : Int)) (IntKind.wrap IntKind.i64 (x.fst - (1 : Int))), ())
  = (Min.min (Max.max x.snd.fst (0 : Ty.El I64)) (x.fst - (1 : Ty.El I64)), ())) := by kernel_rfl
theorem v25_eq : vcFn g25 300 Tryz.f25 cAnsP = ( ∀ (x : (List (ByteArray × List (List (Int × (Int × Int × Int × Int × Int × Int × Int × Int × Unit) × Int × Unit)) × Unit) × List ((Int × (Int × Int × Int × Int × Int × Int × Int × Int × Unit) × Int × Unit) × List Int ×
  Unit) × Int × List Int × Unit) × ByteArray × Int × Unit), Wr (checkB x.fst = Bool.true) → (Wr (IdxI (zIs x.snd.fst) x.fst.fst (0 : Int)) ∧ Wr ((0 : Int) = (0 : Int)) ∧ Wr (x.fst.fst = x.fst.fst) ∧ Wr (x.fst.fst =
  x.fst.fst) ∧ Wr ((↑(List.length x.fst.fst) : Int) = (↑(List.length x.fst.fst) : Int)) ∧ Wr (x.snd.fst = x.snd.fst) ∧ Wr (x.fst.fst = x.fst.fst) ∧ Wr (x.fst.snd.fst = x.fst.snd.fst) ∧ Wr (x.fst.snd.snd.fst =
  x.fst.snd.snd.fst) ∧ Wr (x.fst.snd.snd.snd.fst = x.fst.snd.snd.snd.fst)) ∧ ∀ (x_1 : Int), Wr (IdxI (zIs x.snd.fst) x.fst.fst x_1) → bcase (Decidable.decide (x_1 < (↑(List.length x.fst.fst) : Int))) (Wr ((0 : Int) ≤ x_1)
  ∧ Wr (x_1 < (↑(List.length x.fst.fst) : Int)) ∧ Wr (Bool.true = Bool.true) ∧ bcase (Decidable.decide ((List.getD x.fst.fst (Int.toNat x_1) (Ty.zero ZoneT)).fst = x.snd.fst)) (bcase (Decidable.decide (x_1 < (0 : Int)))
  ((nilL (Int × (Int × Int × Int × Int × Int × Int × Int × Int × Unit) × Int × Unit), (110 : Int), ()) = (ansR x.fst x.snd.fst x.snd.snd.fst, ansE x.fst x.snd.fst x.snd.snd.fst, ())) (Wr ((0 : Int) ≤ x_1) ∧ Wr (x_1 <
  (↑(List.length x.fst.fst) : Int)) ∧ Wr (Bool.true = Bool.true) ∧ Wr (Bool.true = Bool.true) ∧ bcase (Decidable.decide ((↑(List.length (List.getD x.fst.fst (Int.toNat x_1) (Ty.zero ZoneT)).snd.fst) : Int) = (0 : Int)))
  ((nilL (Int × (Int × Int × Int × Int × Int × Int × Int × Int × Unit) × Int × Unit), (110 : Int), ()) = (ansR x.fst x.snd.fst x.snd.snd.fst, ansE x.fst x.snd.fst x.snd.snd.fst, ())) (Wr ((0 : Int) ≤ Min.min (Max.max
  x.snd.snd.fst (0 : Int)) (IntKind.wrap IntKind.i64 ((↑(List.length (List.getD x.fst.fst (Int.toNat x_1) (Ty.zero ZoneT)).snd.fst) : Int) - (1 : Int)))) ∧ Wr (Min.min (Max.max x.snd.snd.fst (0 : Int)) (IntKind.wrap
  IntKind.i64 ((↑(List.length (List.getD x.fst.fst (Int.toNat x_1) (Ty.zero ZoneT)).snd.fst) : Int) - (1 : Int))) < (↑(List.length (List.getD x.fst.fst (Int.toNat x_1) (Ty.zero ZoneT)).snd.fst) : Int)) ∧ Wr (Bool.true =
  Bool.true) ∧ bcase (!Bool.true || Decidable.decide ((↑(List.length (List.getD (List.getD x.fst.fst (Int.toNat x_1) (Ty.zero ZoneT)).snd.fst (Int.toNat (Min.min (Max.max x.snd.snd.fst (0 : Int)) (IntKind.wrap IntKind.i64
  ((↑(List.length (List.getD x.fst.fst (Int.toNat x_1) (Ty.zero ZoneT)).snd.fst) : Int) - (1 : Int))))) (Ty.zero AdL))) : Int) = (0 : Int))) ((nilL (Int × (Int × Int × Int × Int × Int × Int × Int × Int × Unit) × Int ×
  Unit), (110 : Int), ()) = (ansR x.fst x.snd.fst x.snd.snd.fst, ansE x.fst x.snd.fst x.snd.snd.fst, ())) (Wr (Decidable.decide (List.length (List.getD (List.getD x.fst.fst (Int.toNat x_1) (Ty.zero ZoneT)).snd.fst
  (Int.toNat (Min.min (Max.max x.snd.snd.fst (0 : Int)) (IntKind.wrap IntKind.i64 ((↑(List.length (List.getD x.fst.fst (Int.toNat x_1) (Ty.zero ZoneT)).snd.fst) : Int) - (1 : Int))))) (Ty.zero AdL)) * (32 : Nat) ≤
  (140737488355328 : Nat)) = Bool.true) ∧ (List.getD (List.getD x.fst.fst (Int.toNat x_1) (Ty.zero ZoneT)).snd.fst (Int.toNat (Min.min (Max.max x.snd.snd.fst (0 : Int)) (IntKind.wrap IntKind.i64 ((↑(List.length (List.getD
  x.fst.fst (Int.toNat x_1) (Ty.zero ZoneT)).snd.fst) : Int) - (1 : Int))))) (Ty.zero AdL), (0 : Int), ()) = (ansR x.fst x.snd.fst x.snd.snd.fst, ansE x.fst x.snd.fst x.snd.snd.fst, ()))))) (Wr (IdxI (zIs x.snd.fst)
  x.fst.fst (IntKind.wrap IntKind.i64 (x_1 + (1 : Int)))) ∧ Wr (List.length x.fst.fst - Int.toNat (IntKind.wrap IntKind.i64 (x_1 + (1 : Int))) < List.length x.fst.fst - Int.toNat x_1) ∧ Wr (IntKind.wrap IntKind.i64 (x_1 +
  (1 : Int)) = IntKind.wrap IntKind.i64 (x_1 + (1 : Int))) ∧ Wr (x.fst.fst = x.fst.fst) ∧ Wr (x.fst.fst = x.fst.fst) ∧ Wr ((↑(List.length x.fst.fst) : Int) = (↑(List.length x.fst.fst) : Int)) ∧ Wr (x.snd.fst = x.snd.fst)
  ∧ Wr (x.fst.fst = x.fst.fst) ∧ Wr (x.fst.snd.fst = x.fst.snd.fst) ∧ Wr (x.fst.snd.snd.fst = x.fst.snd.snd.fst) ∧ Wr (x.fst.snd.snd.snd.fst = x.fst.snd.snd.snd.fst))) ((nilL (Int × (Int × Int × Int × Int × Int × Int ×
  Int × Int × Unit) × Int × Unit), (110 : Int), ()) = (ansR x.fst x.snd.fst x.snd.snd.fst, ansE x.fst x.snd.fst x.snd.snd.fst, ()))) := by kernel_rfl
theorem v32_eq : vcFn g32 300 Tryz.f32 cAnsP = ( ∀ (x : (List (ByteArray × List (List (Int × (Int × Int × Int × Int × Int × Int × Int × Int × Unit) × Int × Unit)) × Unit) × List ((Int × (Int × Int × Int × Int × Int × Int × Int × Int × Unit) × Int × Unit) × List Int ×
  Unit) × Int × List Int × Unit) × ByteArray × Int × Unit), Wr (checkB x.fst = Bool.true) → (Wr (IdxI (zIs x.snd.fst) x.fst.fst (0 : Int)) ∧ Wr ((0 : Int) = (0 : Int)) ∧ Wr (x.snd.fst = x.snd.fst) ∧ Wr (x.snd.snd.fst =
  x.snd.snd.fst) ∧ Wr ((0 : Int) = (0 : Int)) ∧ Wr (x.fst.fst = x.fst.fst) ∧ Wr (x.fst.snd.fst = x.fst.snd.fst) ∧ Wr (x.fst.snd.snd.fst = x.fst.snd.snd.fst) ∧ Wr (x.fst.snd.snd.snd.fst = x.fst.snd.snd.snd.fst)) ∧ ∀ (x_1 :
  Int), Wr (IdxI (zIs x.snd.fst) x.fst.fst x_1) → bcase (Decidable.decide (x_1 < (↑(List.length x.fst.fst) : Int))) (Wr ((0 : Int) ≤ x_1) ∧ Wr (x_1 < (↑(List.length x.fst.fst) : Int)) ∧ Wr (Bool.true = Bool.true) ∧ Wr
  (Bool.true = Bool.true) ∧ bcase (!Decidable.decide ((List.getD x.fst.fst (Int.toNat x_1) (Ty.zero ZoneT)).fst = x.snd.fst)) (Wr (IdxI (zIs x.snd.fst) x.fst.fst (IntKind.wrap IntKind.i64 (x_1 + (1 : Int)))) ∧ Wr
  (List.length x.fst.fst - Int.toNat (IntKind.wrap IntKind.i64 (x_1 + (1 : Int))) < List.length x.fst.fst - Int.toNat x_1) ∧ Wr (IntKind.wrap IntKind.i64 (x_1 + (1 : Int)) = IntKind.wrap IntKind.i64 (x_1 + (1 : Int))) ∧
  Wr (x.snd.fst = x.snd.fst) ∧ Wr (x.snd.snd.fst = x.snd.snd.fst) ∧ Wr ((0 : Int) = (0 : Int)) ∧ Wr (x.fst.fst = x.fst.fst) ∧ Wr (x.fst.snd.fst = x.fst.snd.fst) ∧ Wr (x.fst.snd.snd.fst = x.fst.snd.snd.fst) ∧ Wr
  (x.fst.snd.snd.snd.fst = x.fst.snd.snd.snd.fst)) (Wr ((0 : Int) ≤ x_1) ∧ Wr (x_1 < (↑(List.length x.fst.fst) : Int)) ∧ Wr (Bool.true = Bool.true) ∧ Wr (Bool.true = Bool.true) ∧ Wr ((Decidable.decide ((0 : Int) ≤
  (↑(List.length (List.getD x.fst.fst (Int.toNat x_1) (Ty.zero ZoneT)).snd.fst) : Int)) && Decidable.decide ((↑(List.length (List.getD x.fst.fst (Int.toNat x_1) (Ty.zero ZoneT)).snd.fst) : Int) ≤ (1000000 : Int))) =
  Bool.true) ∧ Wr ((!Decidable.decide (Min.min (Max.max x.snd.snd.fst (0 : Ty.El I64)) ((↑(List.length (List.getD x.fst.fst (Int.toNat x_1) (Ty.zero ZoneT)).snd.fst) : Int) - (1 : Ty.El I64)) < (0 : Int))) = Bool.true →
  (0 : Int) ≤ x_1) ∧ Wr ((!Decidable.decide (Min.min (Max.max x.snd.snd.fst (0 : Ty.El I64)) ((↑(List.length (List.getD x.fst.fst (Int.toNat x_1) (Ty.zero ZoneT)).snd.fst) : Int) - (1 : Ty.El I64)) < (0 : Int))) =
  Bool.true → x_1 < (↑(List.length x.fst.fst) : Int)) ∧ Wr ((!Decidable.decide (Min.min (Max.max x.snd.snd.fst (0 : Ty.El I64)) ((↑(List.length (List.getD x.fst.fst (Int.toNat x_1) (Ty.zero ZoneT)).snd.fst) : Int) - (1 :
  Ty.El I64)) < (0 : Int))) = Bool.true → Bool.true = Bool.true) ∧ Wr ((!Decidable.decide (Min.min (Max.max x.snd.snd.fst (0 : Ty.El I64)) ((↑(List.length (List.getD x.fst.fst (Int.toNat x_1) (Ty.zero ZoneT)).snd.fst) :
  Int) - (1 : Ty.El I64)) < (0 : Int))) = Bool.true → Bool.true = Bool.true) ∧ Wr ((!Decidable.decide (Min.min (Max.max x.snd.snd.fst (0 : Ty.El I64)) ((↑(List.length (List.getD x.fst.fst (Int.toNat x_1) (Ty.zero
  ZoneT)).snd.fst) : Int) - (1 : Ty.El I64)) < (0 : Int))) = Bool.true → (0 : Int) ≤ Min.min (Max.max x.snd.snd.fst (0 : Ty.El I64)) ((↑(List.length (List.getD x.fst.fst (Int.toNat x_1) (Ty.zero ZoneT)).snd.fst) : Int) -
  (1 : Ty.El I64))) ∧ Wr ((!Decidable.decide (Min.min (Max.max x.snd.snd.fst (0 : Ty.El I64)) ((↑(List.length (List.getD x.fst.fst (Int.toNat x_1) (Ty.zero ZoneT)).snd.fst) : Int) - (1 : Ty.El I64)) < (0 : Int))) =
  Bool.true → Min.min (Max.max x.snd.snd.fst (0 : Ty.El I64)) ((↑(List.length (List.getD x.fst.fst (Int.toNat x_1) (Ty.zero ZoneT)).snd.fst) : Int) - (1 : Ty.El I64)) < (↑(List.length (List.getD x.fst.fst (Int.toNat x_1)
  (Ty.zero ZoneT)).snd.fst) : Int)) ∧ Wr ((!Decidable.decide (Min.min (Max.max x.snd.snd.fst (0 : Ty.El I64)) ((↑(List.length (List.getD x.fst.fst (Int.toNat x_1) (Ty.zero ZoneT)).snd.fst) : Int) - (1 : Ty.El I64)) < (0 :
  Int))) = Bool.true → Bool.true = Bool.true) ∧ bcase (Decidable.decide (Min.min (Max.max x.snd.snd.fst (0 : Ty.El I64)) ((↑(List.length (List.getD x.fst.fst (Int.toNat x_1) (Ty.zero ZoneT)).snd.fst) : Int) - (1 : Ty.El
  I64)) < (0 : Int)) || Decidable.decide ((↑(List.length (List.getD (List.getD x.fst.fst (Int.toNat x_1) (Ty.zero ZoneT)).snd.fst (Int.toNat (Min.min (Max.max x.snd.snd.fst (0 : Ty.El I64)) ((↑(List.length (List.getD
  x.fst.fst (Int.toNat x_1) (Ty.zero ZoneT)).snd.fst) : Int) - (1 : Ty.El I64)))) (Ty.zero AdL))) : Int) = (0 : Int))) ((nilL (Int × (Int × Int × Int × Int × Int × Int × Int × Int × Unit) × Int × Unit), (110 : Int), ()) =
  (ansR x.fst x.snd.fst x.snd.snd.fst, ansE x.fst x.snd.fst x.snd.snd.fst, ())) (Wr ((0 : Int) ≤ x_1) ∧ Wr (x_1 < (↑(List.length x.fst.fst) : Int)) ∧ Wr (Bool.true = Bool.true) ∧ Wr (Bool.true = Bool.true) ∧ Wr ((0 : Int)
  ≤ Min.min (Max.max x.snd.snd.fst (0 : Ty.El I64)) ((↑(List.length (List.getD x.fst.fst (Int.toNat x_1) (Ty.zero ZoneT)).snd.fst) : Int) - (1 : Ty.El I64))) ∧ Wr (Min.min (Max.max x.snd.snd.fst (0 : Ty.El I64))
  ((↑(List.length (List.getD x.fst.fst (Int.toNat x_1) (Ty.zero ZoneT)).snd.fst) : Int) - (1 : Ty.El I64)) < (↑(List.length (List.getD x.fst.fst (Int.toNat x_1) (Ty.zero ZoneT)).snd.fst) : Int)) ∧ Wr (Bool.true =
  Bool.true) ∧ Wr ((List.length (nilL (Int × (Int × Int × Int × Int × Int × Int × Int × Int × Unit) × Int × Unit)) + List.length (List.getD (List.getD x.fst.fst (Int.toNat x_1) (Ty.zero ZoneT)).snd.fst (Int.toNat (Min.min
  (Max.max x.snd.snd.fst (0 : Ty.El I64)) ((↑(List.length (List.getD x.fst.fst (Int.toNat x_1) (Ty.zero ZoneT)).snd.fst) : Int) - (1 : Ty.El I64)))) (Ty.zero AdL))) * (32 : Nat) ≤ (140737488355328 : Nat)) ∧ (nilL (Int ×
  (Int × Int × Int × Int × Int × Int × Int × Int × Unit) × Int × Unit) ++ List.getD (List.getD x.fst.fst (Int.toNat x_1) (Ty.zero ZoneT)).snd.fst (Int.toNat (Min.min (Max.max x.snd.snd.fst (0 : Ty.El I64)) ((↑(List.length
  (List.getD x.fst.fst (Int.toNat x_1) (Ty.zero ZoneT)).snd.fst) : Int) - (1 : Ty.El I64)))) (Ty.zero AdL), (0 : Int), ()) = (ansR x.fst x.snd.fst x.snd.snd.fst, ansE x.fst x.snd.fst x.snd.snd.fst, ())))) ((nilL (Int ×
  (Int × Int × Int × Int × Int × Int × Int × Int × Unit) × Int × Unit), (110 : Int), ()) = (ansR x.fst x.snd.fst x.snd.snd.fst, ansE x.fst x.snd.fst x.snd.snd.fst, ()))) := by kernel_rfl
theorem v70_eq : vcFn g70 300 Tryz.f70 cLookP = ( ∀ (x : Option (((List (ByteArray × List (List (Int × (Int × Int × Int × Int × Int × Int × Int × Int × Unit) × Int × Unit)) × Unit) × List ((Int × (Int × Int × Int × Int × Int × Int × Int × Int × Unit) × Int × Unit) ×
  List Int × Unit) × Int × List Int × Unit) × Int × List ((Int × (Int × Int × Int × Int × Int × Int × Int × Int × Unit) × Int × Unit) × Int × Int × Int × Bool × Unit) × List (Int × (Int × (Int × Int × Int × Int × Int ×
  Int × Int × Int × Unit) × Int × Unit) × Int × Bool × Bool × Unit) × List (Int × ByteArray × Int × Bool × Unit) × Int × List (Bool × Int × Int × Unit) × Unit) × Unit) × Int × Unit), Wr (okKG x.fst = Bool.true) → Wr
  (Option.isSome x.fst = Bool.true) ∧ Wr (Option.isSome x.fst = Bool.true) ∧ Wr (Option.isSome (Option.map (fun (x : ((List (ByteArray × List (List (Int × (Int × Int × Int × Int × Int × Int × Int × Int × Unit) × Int ×
  Unit)) × Unit) × List ((Int × (Int × Int × Int × Int × Int × Int × Int × Int × Unit) × Int × Unit) × List Int × Unit) × Int × List Int × Unit) × Int × List ((Int × (Int × Int × Int × Int × Int × Int × Int × Int × Unit)
  × Int × Unit) × Int × Int × Int × Bool × Unit) × List (Int × (Int × (Int × Int × Int × Int × Int × Int × Int × Int × Unit) × Int × Unit) × Int × Bool × Bool × Unit) × List (Int × ByteArray × Int × Bool × Unit) × Int ×
  List (Bool × Int × Int × Unit) × Unit) × Unit) => x.fst) x.fst) = Bool.true) ∧ Wr (Option.isSome (Option.map (fun (x : (List (ByteArray × List (List (Int × (Int × Int × Int × Int × Int × Int × Int × Int × Unit) × Int ×
  Unit)) × Unit) × List ((Int × (Int × Int × Int × Int × Int × Int × Int × Int × Unit) × Int × Unit) × List Int × Unit) × Int × List Int × Unit) × Int × List ((Int × (Int × Int × Int × Int × Int × Int × Int × Int × Unit)
  × Int × Unit) × Int × Int × Int × Bool × Unit) × List (Int × (Int × (Int × Int × Int × Int × Int × Int × Int × Int × Unit) × Int × Unit) × Int × Bool × Bool × Unit) × List (Int × ByteArray × Int × Bool × Unit) × Int ×
  List (Bool × Int × Int × Unit) × Unit) => x.snd.snd.snd.snd.fst) (Option.map (fun (x : ((List (ByteArray × List (List (Int × (Int × Int × Int × Int × Int × Int × Int × Int × Unit) × Int × Unit)) × Unit) × List ((Int ×
  (Int × Int × Int × Int × Int × Int × Int × Int × Unit) × Int × Unit) × List Int × Unit) × Int × List Int × Unit) × Int × List ((Int × (Int × Int × Int × Int × Int × Int × Int × Int × Unit) × Int × Unit) × Int × Int ×
  Int × Bool × Unit) × List (Int × (Int × (Int × Int × Int × Int × Int × Int × Int × Int × Unit) × Int × Unit) × Int × Bool × Bool × Unit) × List (Int × ByteArray × Int × Bool × Unit) × Int × List (Bool × Int × Int ×
  Unit) × Unit) × Unit) => x.fst) x.fst)) = Bool.true) ∧ (Wr (IdxI (lkIs x.snd.fst) (Option.getD (Option.map (fun (x : (List (ByteArray × List (List (Int × (Int × Int × Int × Int × Int × Int × Int × Int × Unit) × Int ×
  Unit)) × Unit) × List ((Int × (Int × Int × Int × Int × Int × Int × Int × Int × Unit) × Int × Unit) × List Int × Unit) × Int × List Int × Unit) × Int × List ((Int × (Int × Int × Int × Int × Int × Int × Int × Int × Unit)
  × Int × Unit) × Int × Int × Int × Bool × Unit) × List (Int × (Int × (Int × Int × Int × Int × Int × Int × Int × Int × Unit) × Int × Unit) × Int × Bool × Bool × Unit) × List (Int × ByteArray × Int × Bool × Unit) × Int ×
  List (Bool × Int × Int × Unit) × Unit) => x.snd.snd.snd.snd.fst) (Option.map (fun (x : ((List (ByteArray × List (List (Int × (Int × Int × Int × Int × Int × Int × Int × Int × Unit) × Int × Unit)) × Unit) × List ((Int ×
  (Int × Int × Int × Int × Int × Int × Int × Int × Unit) × Int × Unit) × List Int × Unit) × Int × List Int × Unit) × Int × List ((Int × (Int × Int × Int × Int × Int × Int × Int × Int × Unit) × Int × Unit) × Int × Int ×
  Int × Bool × Unit) × List (Int × (Int × (Int × Int × Int × Int × Int × Int × Int × Int × Unit) × Int × Unit) × Int × Bool × Bool × Unit) × List (Int × ByteArray × Int × Bool × Unit) × Int × List (Bool × Int × Int ×
  Unit) × Unit) × Unit) => x.fst) x.fst)) (Ty.zero (Ty.sl LookT))) (0 : Int)) ∧ Wr ((0 : Int) = (0 : Int)) ∧ Wr (Option.getD (Option.map (fun (x : (List (ByteArray × List (List (Int × (Int × Int × Int × Int × Int × Int ×
  Int × Int × Unit) × Int × Unit)) × Unit) × List ((Int × (Int × Int × Int × Int × Int × Int × Int × Int × Unit) × Int × Unit) × List Int × Unit) × Int × List Int × Unit) × Int × List ((Int × (Int × Int × Int × Int × Int
  × Int × Int × Int × Unit) × Int × Unit) × Int × Int × Int × Bool × Unit) × List (Int × (Int × (Int × Int × Int × Int × Int × Int × Int × Int × Unit) × Int × Unit) × Int × Bool × Bool × Unit) × List (Int × ByteArray ×
  Int × Bool × Unit) × Int × List (Bool × Int × Int × Unit) × Unit) => x.snd.snd.snd.snd.fst) (Option.map (fun (x : ((List (ByteArray × List (List (Int × (Int × Int × Int × Int × Int × Int × Int × Int × Unit) × Int ×
  Unit)) × Unit) × List ((Int × (Int × Int × Int × Int × Int × Int × Int × Int × Unit) × Int × Unit) × List Int × Unit) × Int × List Int × Unit) × Int × List ((Int × (Int × Int × Int × Int × Int × Int × Int × Int × Unit)
  × Int × Unit) × Int × Int × Int × Bool × Unit) × List (Int × (Int × (Int × Int × Int × Int × Int × Int × Int × Int × Unit) × Int × Unit) × Int × Bool × Bool × Unit) × List (Int × ByteArray × Int × Bool × Unit) × Int ×
  List (Bool × Int × Int × Unit) × Unit) × Unit) => x.fst) x.fst)) (Ty.zero (Ty.sl LookT)) = Option.getD (Option.map (fun (x : (List (ByteArray × List (List (Int × (Int × Int × Int × Int × Int × Int × Int × Int × Unit) ×
  Int × Unit)) × Unit) × List ((Int × (Int × Int × Int × Int × Int × Int × Int × Int × Unit) × Int × Unit) × List Int × Unit) × Int × List Int × Unit) × Int × List ((Int × (Int × Int × Int × Int × Int × Int × Int × Int ×
  Unit) × Int × Unit) × Int × Int × Int × Bool × Unit) × List (Int × (Int × (Int × Int × Int × Int × Int × Int × Int × Int × Unit) × Int × Unit) × Int × Bool × Bool × Unit) × List (Int × ByteArray × Int × Bool × Unit) ×
  Int × List (Bool × Int × Int × Unit) × Unit) => x.snd.snd.snd.snd.fst) (Option.map (fun (x : ((List (ByteArray × List (List (Int × (Int × Int × Int × Int × Int × Int × Int × Int × Unit) × Int × Unit)) × Unit) × List
  ((Int × (Int × Int × Int × Int × Int × Int × Int × Int × Unit) × Int × Unit) × List Int × Unit) × Int × List Int × Unit) × Int × List ((Int × (Int × Int × Int × Int × Int × Int × Int × Int × Unit) × Int × Unit) × Int ×
  Int × Int × Bool × Unit) × List (Int × (Int × (Int × Int × Int × Int × Int × Int × Int × Int × Unit) × Int × Unit) × Int × Bool × Bool × Unit) × List (Int × ByteArray × Int × Bool × Unit) × Int × List (Bool × Int × Int
  × Unit) × Unit) × Unit) => x.fst) x.fst)) (Ty.zero (Ty.sl LookT))) ∧ Wr (Option.getD (Option.map (fun (x : (List (ByteArray × List (List (Int × (Int × Int × Int × Int × Int × Int × Int × Int × Unit) × Int × Unit)) ×
  Unit) × List ((Int × (Int × Int × Int × Int × Int × Int × Int × Int × Unit) × Int × Unit) × List Int × Unit) × Int × List Int × Unit) × Int × List ((Int × (Int × Int × Int × Int × Int × Int × Int × Int × Unit) × Int ×
  Unit) × Int × Int × Int × Bool × Unit) × List (Int × (Int × (Int × Int × Int × Int × Int × Int × Int × Int × Unit) × Int × Unit) × Int × Bool × Bool × Unit) × List (Int × ByteArray × Int × Bool × Unit) × Int × List
  (Bool × Int × Int × Unit) × Unit) => x.snd.snd.snd.snd.fst) (Option.map (fun (x : ((List (ByteArray × List (List (Int × (Int × Int × Int × Int × Int × Int × Int × Int × Unit) × Int × Unit)) × Unit) × List ((Int × (Int ×
  Int × Int × Int × Int × Int × Int × Int × Unit) × Int × Unit) × List Int × Unit) × Int × List Int × Unit) × Int × List ((Int × (Int × Int × Int × Int × Int × Int × Int × Int × Unit) × Int × Unit) × Int × Int × Int ×
  Bool × Unit) × List (Int × (Int × (Int × Int × Int × Int × Int × Int × Int × Int × Unit) × Int × Unit) × Int × Bool × Bool × Unit) × List (Int × ByteArray × Int × Bool × Unit) × Int × List (Bool × Int × Int × Unit) ×
  Unit) × Unit) => x.fst) x.fst)) (Ty.zero (Ty.sl LookT)) = Option.getD (Option.map (fun (x : (List (ByteArray × List (List (Int × (Int × Int × Int × Int × Int × Int × Int × Int × Unit) × Int × Unit)) × Unit) × List ((Int
  × (Int × Int × Int × Int × Int × Int × Int × Int × Unit) × Int × Unit) × List Int × Unit) × Int × List Int × Unit) × Int × List ((Int × (Int × Int × Int × Int × Int × Int × Int × Int × Unit) × Int × Unit) × Int × Int ×
  Int × Bool × Unit) × List (Int × (Int × (Int × Int × Int × Int × Int × Int × Int × Int × Unit) × Int × Unit) × Int × Bool × Bool × Unit) × List (Int × ByteArray × Int × Bool × Unit) × Int × List (Bool × Int × Int ×
  Unit) × Unit) => x.snd.snd.snd.snd.fst) (Option.map (fun (x : ((List (ByteArray × List (List (Int × (Int × Int × Int × Int × Int × Int × Int × Int × Unit) × Int × Unit)) × Unit) × List ((Int × (Int × Int × Int × Int ×
  Int × Int × Int × Int × Unit) × Int × Unit) × List Int × Unit) × Int × List Int × Unit) × Int × List ((Int × (Int × Int × Int × Int × Int × Int × Int × Int × Unit) × Int × Unit) × Int × Int × Int × Bool × Unit) × List
  (Int × (Int × (Int × Int × Int × Int × Int × Int × Int × Int × Unit) × Int × Unit) × Int × Bool × Bool × Unit) × List (Int × ByteArray × Int × Bool × Unit) × Int × List (Bool × Int × Int × Unit) × Unit) × Unit) =>
  x.fst) x.fst)) (Ty.zero (Ty.sl LookT))) ∧ Wr ((↑(List.length (Option.getD (Option.map (fun (x : (List (ByteArray × List (List (Int × (Int × Int × Int × Int × Int × Int × Int × Int × Unit) × Int × Unit)) × Unit) × List
  ((Int × (Int × Int × Int × Int × Int × Int × Int × Int × Unit) × Int × Unit) × List Int × Unit) × Int × List Int × Unit) × Int × List ((Int × (Int × Int × Int × Int × Int × Int × Int × Int × Unit) × Int × Unit) × Int ×
  Int × Int × Bool × Unit) × List (Int × (Int × (Int × Int × Int × Int × Int × Int × Int × Int × Unit) × Int × Unit) × Int × Bool × Bool × Unit) × List (Int × ByteArray × Int × Bool × Unit) × Int × List (Bool × Int × Int
  × Unit) × Unit) => x.snd.snd.snd.snd.fst) (Option.map (fun (x : ((List (ByteArray × List (List (Int × (Int × Int × Int × Int × Int × Int × Int × Int × Unit) × Int × Unit)) × Unit) × List ((Int × (Int × Int × Int × Int ×
  Int × Int × Int × Int × Unit) × Int × Unit) × List Int × Unit) × Int × List Int × Unit) × Int × List ((Int × (Int × Int × Int × Int × Int × Int × Int × Int × Unit) × Int × Unit) × Int × Int × Int × Bool × Unit) × List
  (Int × (Int × (Int × Int × Int × Int × Int × Int × Int × Int × Unit) × Int × Unit) × Int × Bool × Bool × Unit) × List (Int × ByteArray × Int × Bool × Unit) × Int × List (Bool × Int × Int × Unit) × Unit) × Unit) =>
  x.fst) x.fst)) (Ty.zero (Ty.sl LookT)))) : Int) = (↑(List.length (Option.getD (Option.map (fun (x : (List (ByteArray × List (List (Int × (Int × Int × Int × Int × Int × Int × Int × Int × Unit) × Int × Unit)) × Unit) ×
  List ((Int × (Int × Int × Int × Int × Int × Int × Int × Int × Unit) × Int × Unit) × List Int × Unit) × Int × List Int × Unit) × Int × List ((Int × (Int × Int × Int × Int × Int × Int × Int × Int × Unit) × Int × Unit) ×
  Int × Int × Int × Bool × Unit) × List (Int × (Int × (Int × Int × Int × Int × Int × Int × Int × Int × Unit) × Int × Unit) × Int × Bool × Bool × Unit) × List (Int × ByteArray × Int × Bool × Unit) × Int × List (Bool × Int
  × Int × Unit) × Unit) => x.snd.snd.snd.snd.fst) (Option.map (fun (x : ((List (ByteArray × List (List (Int × (Int × Int × Int × Int × Int × Int × Int × Int × Unit) × Int × Unit)) × Unit) × List ((Int × (Int × Int × Int ×
  Int × Int × Int × Int × Int × Unit) × Int × Unit) × List Int × Unit) × Int × List Int × Unit) × Int × List ((Int × (Int × Int × Int × Int × Int × Int × Int × Int × Unit) × Int × Unit) × Int × Int × Int × Bool × Unit) ×
  List (Int × (Int × (Int × Int × Int × Int × Int × Int × Int × Int × Unit) × Int × Unit) × Int × Bool × Bool × Unit) × List (Int × ByteArray × Int × Bool × Unit) × Int × List (Bool × Int × Int × Unit) × Unit) × Unit) =>
  x.fst) x.fst)) (Ty.zero (Ty.sl LookT)))) : Int)) ∧ Wr (x.snd.fst = x.snd.fst)) ∧ ∀ (x_1 : Int), Wr (IdxI (lkIs x.snd.fst) (Option.getD (Option.map (fun (x : (List (ByteArray × List (List (Int × (Int × Int × Int × Int ×
  Int × Int × Int × Int × Unit) × Int × Unit)) × Unit) × List ((Int × (Int × Int × Int × Int × Int × Int × Int × Int × Unit) × Int × Unit) × List Int × Unit) × Int × List Int × Unit) × Int × List ((Int × (Int × Int × Int
  × Int × Int × Int × Int × Int × Unit) × Int × Unit) × Int × Int × Int × Bool × Unit) × List (Int × (Int × (Int × Int × Int × Int × Int × Int × Int × Int × Unit) × Int × Unit) × Int × Bool × Bool × Unit) × List (Int ×
  ByteArray × Int × Bool × Unit) × Int × List (Bool × Int × Int × Unit) × Unit) => x.snd.snd.snd.snd.fst) (Option.map (fun (x : ((List (ByteArray × List (List (Int × (Int × Int × Int × Int × Int × Int × Int × Int × Unit)
  × Int × Unit)) × Unit) × List ((Int × (Int × Int × Int × Int × Int × Int × Int × Int × Unit) × Int × Unit) × List Int × Unit) × Int × List Int × Unit) × Int × List ((Int × (Int × Int × Int × Int × Int × Int × Int × Int
  × Unit) × Int × Unit) × Int × Int × Int × Bool × Unit) × List (Int × (Int × (Int × Int × Int × Int × Int × Int × Int × Int × Unit) × Int × Unit) × Int × Bool × Bool × Unit) × List (Int × ByteArray × Int × Bool × Unit) ×
  Int × List (Bool × Int × Int × Unit) × Unit) × Unit) => x.fst) x.fst)) (Ty.zero (Ty.sl LookT))) x_1) → bcase (Decidable.decide (x_1 < (↑(List.length (Option.getD (Option.map (fun (x : (List (ByteArray × List (List (Int
  × (Int × Int × Int × Int × Int × Int × Int × Int × Unit) × Int × Unit)) × Unit) × List ((Int × (Int × Int × Int × Int × Int × Int × Int × Int × Unit) × Int × Unit) × List Int × Unit) × Int × List Int × Unit) × Int ×
  List ((Int × (Int × Int × Int × Int × Int × Int × Int × Int × Unit) × Int × Unit) × Int × Int × Int × Bool × Unit) × List (Int × (Int × (Int × Int × Int × Int × Int × Int × Int × Int × Unit) × Int × Unit) × Int × Bool ×
  Bool × Unit) × List (Int × ByteArray × Int × Bool × Unit) × Int × List (Bool × Int × Int × Unit) × Unit) => x.snd.snd.snd.snd.fst) (Option.map (fun (x : ((List (ByteArray × List (List (Int × (Int × Int × Int × Int × Int
  × Int × Int × Int × Unit) × Int × Unit)) × Unit) × List ((Int × (Int × Int × Int × Int × Int × Int × Int × Int × Unit) × Int × Unit) × List Int × Unit) × Int × List Int × Unit) × Int × List ((Int × (Int × Int × Int ×
  Int × Int × Int × Int × Int × Unit) × Int × Unit) × Int × Int × Int × Bool × Unit) × List (Int × (Int × (Int × Int × Int × Int × Int × Int × Int × Int × Unit) × Int × Unit) × Int × Bool × Bool × Unit) × List (Int ×
  ByteArray × Int × Bool × Unit) × Int × List (Bool × Int × Int × Unit) × Unit) × Unit) => x.fst) x.fst)) (Ty.zero (Ty.sl LookT)))) : Int))) (Wr ((0 : Int) ≤ x_1) ∧ Wr (x_1 < (↑(List.length (Option.getD (Option.map (fun
  (x : (List (ByteArray × List (List (Int × (Int × Int × Int × Int × Int × Int × Int × Int × Unit) × Int × Unit)) × Unit) × List ((Int × (Int × Int × Int × Int × Int × Int × Int × Int × Unit) × Int × Unit) × List Int ×
  Unit) × Int × List Int × Unit) × Int × List ((Int × (Int × Int × Int × Int × Int × Int × Int × Int × Unit) × Int × Unit) × Int × Int × Int × Bool × Unit) × List (Int × (Int × (Int × Int × Int × Int × Int × Int × Int ×
  Int × Unit) × Int × Unit) × Int × Bool × Bool × Unit) × List (Int × ByteArray × Int × Bool × Unit) × Int × List (Bool × Int × Int × Unit) × Unit) => x.snd.snd.snd.snd.fst) (Option.map (fun (x : ((List (ByteArray × List
  (List (Int × (Int × Int × Int × Int × Int × Int × Int × Int × Unit) × Int × Unit)) × Unit) × List ((Int × (Int × Int × Int × Int × Int × Int × Int × Int × Unit) × Int × Unit) × List Int × Unit) × Int × List Int × Unit)
  × Int × List ((Int × (Int × Int × Int × Int × Int × Int × Int × Int × Unit) × Int × Unit) × Int × Int × Int × Bool × Unit) × List (Int × (Int × (Int × Int × Int × Int × Int × Int × Int × Int × Unit) × Int × Unit) × Int
  × Bool × Bool × Unit) × List (Int × ByteArray × Int × Bool × Unit) × Int × List (Bool × Int × Int × Unit) × Unit) × Unit) => x.fst) x.fst)) (Ty.zero (Ty.sl LookT)))) : Int)) ∧ Wr (Bool.true = Bool.true) ∧ bcase
  (Decidable.decide ((List.getD (Option.getD (Option.map (fun (x : (List (ByteArray × List (List (Int × (Int × Int × Int × Int × Int × Int × Int × Int × Unit) × Int × Unit)) × Unit) × List ((Int × (Int × Int × Int × Int ×
  Int × Int × Int × Int × Unit) × Int × Unit) × List Int × Unit) × Int × List Int × Unit) × Int × List ((Int × (Int × Int × Int × Int × Int × Int × Int × Int × Unit) × Int × Unit) × Int × Int × Int × Bool × Unit) × List
  (Int × (Int × (Int × Int × Int × Int × Int × Int × Int × Int × Unit) × Int × Unit) × Int × Bool × Bool × Unit) × List (Int × ByteArray × Int × Bool × Unit) × Int × List (Bool × Int × Int × Unit) × Unit) =>
  x.snd.snd.snd.snd.fst) (Option.map (fun (x : ((List (ByteArray × List (List (Int × (Int × Int × Int × Int × Int × Int × Int × Int × Unit) × Int × Unit)) × Unit) × List ((Int × (Int × Int × Int × Int × Int × Int × Int ×
  Int × Unit) × Int × Unit) × List Int × Unit) × Int × List Int × Unit) × Int × List ((Int × (Int × Int × Int × Int × Int × Int × Int × Int × Unit) × Int × Unit) × Int × Int × Int × Bool × Unit) × List (Int × (Int × (Int
  × Int × Int × Int × Int × Int × Int × Int × Unit) × Int × Unit) × Int × Bool × Bool × Unit) × List (Int × ByteArray × Int × Bool × Unit) × Int × List (Bool × Int × Int × Unit) × Unit) × Unit) => x.fst) x.fst)) (Ty.zero
  (Ty.sl LookT))) (Int.toNat x_1) (Ty.zero LookT)).fst = x.snd.fst)) ((x_1, ()) = (ixL (glW x.fst).snd.snd.snd.snd.fst x.snd.fst, ())) (Wr (IdxI (lkIs x.snd.fst) (Option.getD (Option.map (fun (x : (List (ByteArray × List
  (List (Int × (Int × Int × Int × Int × Int × Int × Int × Int × Unit) × Int × Unit)) × Unit) × List ((Int × (Int × Int × Int × Int × Int × Int × Int × Int × Unit) × Int × Unit) × List Int × Unit) × Int × List Int × Unit)
  × Int × List ((Int × (Int × Int × Int × Int × Int × Int × Int × Int × Unit) × Int × Unit) × Int × Int × Int × Bool × Unit) × List (Int × (Int × (Int × Int × Int × Int × Int × Int × Int × Int × Unit) × Int × Unit) × Int
  × Bool × Bool × Unit) × List (Int × ByteArray × Int × Bool × Unit) × Int × List (Bool × Int × Int × Unit) × Unit) => x.snd.snd.snd.snd.fst) (Option.map (fun (x : ((List (ByteArray × List (List (Int × (Int × Int × Int ×
  Int × Int × Int × Int × Int × Unit) × Int × Unit)) × Unit) × List ((Int × (Int × Int × Int × Int × Int × Int × Int × Int × Unit) × Int × Unit) × List Int × Unit) × Int × List Int × Unit) × Int × List ((Int × (Int × Int
  × Int × Int × Int × Int × Int × Int × Unit) × Int × Unit) × Int × Int × Int × Bool × Unit) × List (Int × (Int × (Int × Int × Int × Int × Int × Int × Int × Int × Unit) × Int × Unit) × Int × Bool × Bool × Unit) × List
  (Int × ByteArray × Int × Bool × Unit) × Int × List (Bool × Int × Int × Unit) × Unit) × Unit) => x.fst) x.fst)) (Ty.zero (Ty.sl LookT))) (IntKind.wrap IntKind.i64 (x_1 + (1 : Int)))) ∧ Wr (List.length (Option.getD
  (Option.map (fun (x : (List (ByteArray × List (List (Int × (Int × Int × Int × Int × Int × Int × Int × Int × Unit) × Int × Unit)) × Unit) × List ((Int × (Int × Int × Int × Int × Int × Int × Int × Int × Unit) × Int ×
  Unit) × List Int × Unit) × Int × List Int × Unit) × Int × List ((Int × (Int × Int × Int × Int × Int × Int × Int × Int × Unit) × Int × Unit) × Int × Int × Int × Bool × Unit) × List (Int × (Int × (Int × Int × Int × Int ×
  Int × Int × Int × Int × Unit) × Int × Unit) × Int × Bool × Bool × Unit) × List (Int × ByteArray × Int × Bool × Unit) × Int × List (Bool × Int × Int × Unit) × Unit) => x.snd.snd.snd.snd.fst) (Option.map (fun (x : ((List
  (ByteArray × List (List (Int × (Int × Int × Int × Int × Int × Int × Int × Int × Unit) × Int × Unit)) × Unit) × List ((Int × (Int × Int × Int × Int × Int × Int × Int × Int × Unit) × Int × Unit) × List Int × Unit) × Int ×
  List Int × Unit) × Int × List ((Int × (Int × Int × Int × Int × Int × Int × Int × Int × Unit) × Int × Unit) × Int × Int × Int × Bool × Unit) × List (Int × (Int × (Int × Int × Int × Int × Int × Int × Int × Int × Unit) ×
  Int × Unit) × Int × Bool × Bool × Unit) × List (Int × ByteArray × Int × Bool × Unit) × Int × List (Bool × Int × Int × Unit) × Unit) × Unit) => x.fst) x.fst)) (Ty.zero (Ty.sl LookT))) - Int.toNat (IntKind.wrap
  IntKind.i64 (x_1 + (1 : Int))) < List.length (Option.getD (Option.map (fun (x : (List (ByteArray × List (List (Int × (Int × Int × Int × Int × Int × Int × Int × Int × Unit) × Int × Unit)) × Unit) × List ((Int × (Int ×
  Int × Int × Int × Int × Int × Int × Int × Unit) × Int × Unit) × List Int × Unit) × Int × List Int × Unit) × Int × List ((Int × (Int × Int × Int × Int × Int × Int × Int × Int × Unit) × Int × Unit) × Int × Int × Int ×
  Bool × Unit) × List (Int × (Int × (Int × Int × Int × Int × Int × Int × Int × Int × Unit) × Int × Unit) × Int × Bool × Bool × Unit) × List (Int × ByteArray × Int × Bool × Unit) × Int × List (Bool × Int × Int × Unit) ×
  Unit) => x.snd.snd.snd.snd.fst) (Option.map (fun (x : ((List (ByteArray × List (List (Int × (Int × Int × Int × Int × Int × Int × Int × Int × Unit) × Int × Unit)) × Unit) × List ((Int × (Int × Int × Int × Int × Int × Int
  × Int × Int × Unit) × Int × Unit) × List Int × Unit) × Int × List Int × Unit) × Int × List ((Int × (Int × Int × Int × Int × Int × Int × Int × Int × Unit) × Int × Unit) × Int × Int × Int × Bool × Unit) × List (Int × (Int
  × (Int × Int × Int × Int × Int × Int × Int × Int × Unit) × Int × Unit) × Int × Bool × Bool × Unit) × List (Int × ByteArray × Int × Bool × Unit) × Int × List (Bool × Int × Int × Unit) × Unit) × Unit) => x.fst) x.fst))
  (Ty.zero (Ty.sl LookT))) - Int.toNat x_1) ∧ Wr (IntKind.wrap IntKind.i64 (x_1 + (1 : Int)) = IntKind.wrap IntKind.i64 (x_1 + (1 : Int))) ∧ Wr (Option.getD (Option.map (fun (x : (List (ByteArray × List (List (Int × (Int
  × Int × Int × Int × Int × Int × Int × Int × Unit) × Int × Unit)) × Unit) × List ((Int × (Int × Int × Int × Int × Int × Int × Int × Int × Unit) × Int × Unit) × List Int × Unit) × Int × List Int × Unit) × Int × List ((Int
  × (Int × Int × Int × Int × Int × Int × Int × Int × Unit) × Int × Unit) × Int × Int × Int × Bool × Unit) × List (Int × (Int × (Int × Int × Int × Int × Int × Int × Int × Int × Unit) × Int × Unit) × Int × Bool × Bool ×
  Unit) × List (Int × ByteArray × Int × Bool × Unit) × Int × List (Bool × Int × Int × Unit) × Unit) => x.snd.snd.snd.snd.fst) (Option.map (fun (x : ((List (ByteArray × List (List (Int × (Int × Int × Int × Int × Int × Int
  × Int × Int × Unit) × Int × Unit)) × Unit) × List ((Int × (Int × Int × Int × Int × Int × Int × Int × Int × Unit) × Int × Unit) × List Int × Unit) × Int × List Int × Unit) × Int × List ((Int × (Int × Int × Int × Int ×
  Int × Int × Int × Int × Unit) × Int × Unit) × Int × Int × Int × Bool × Unit) × List (Int × (Int × (Int × Int × Int × Int × Int × Int × Int × Int × Unit) × Int × Unit) × Int × Bool × Bool × Unit) × List (Int × ByteArray
  × Int × Bool × Unit) × Int × List (Bool × Int × Int × Unit) × Unit) × Unit) => x.fst) x.fst)) (Ty.zero (Ty.sl LookT)) = Option.getD (Option.map (fun (x : (List (ByteArray × List (List (Int × (Int × Int × Int × Int × Int
  × Int × Int × Int × Unit) × Int × Unit)) × Unit) × List ((Int × (Int × Int × Int × Int × Int × Int × Int × Int × Unit) × Int × Unit) × List Int × Unit) × Int × List Int × Unit) × Int × List ((Int × (Int × Int × Int ×
  Int × Int × Int × Int × Int × Unit) × Int × Unit) × Int × Int × Int × Bool × Unit) × List (Int × (Int × (Int × Int × Int × Int × Int × Int × Int × Int × Unit) × Int × Unit) × Int × Bool × Bool × Unit) × List (Int ×
  ByteArray × Int × Bool × Unit) × Int × List (Bool × Int × Int × Unit) × Unit) => x.snd.snd.snd.snd.fst) (Option.map (fun (x : ((List (ByteArray × List (List (Int × (Int × Int × Int × Int × Int × Int × Int × Int × Unit)
  × Int × Unit)) × Unit) × List ((Int × (Int × Int × Int × Int × Int × Int × Int × Int × Unit) × Int × Unit) × List Int × Unit) × Int × List Int × Unit) × Int × List ((Int × (Int × Int × Int × Int × Int × Int × Int × Int
  × Unit) × Int × Unit) × Int × Int × Int × Bool × Unit) × List (Int × (Int × (Int × Int × Int × Int × Int × Int × Int × Int × Unit) × Int × Unit) × Int × Bool × Bool × Unit) × List (Int × ByteArray × Int × Bool × Unit) ×
  Int × List (Bool × Int × Int × Unit) × Unit) × Unit) => x.fst) x.fst)) (Ty.zero (Ty.sl LookT))) ∧ Wr (Option.getD (Option.map (fun (x : (List (ByteArray × List (List (Int × (Int × Int × Int × Int × Int × Int × Int × Int
  × Unit) × Int × Unit)) × Unit) × List ((Int × (Int × Int × Int × Int × Int × Int × Int × Int × Unit) × Int × Unit) × List Int × Unit) × Int × List Int × Unit) × Int × List ((Int × (Int × Int × Int × Int × Int × Int ×
  Int × Int × Unit) × Int × Unit) × Int × Int × Int × Bool × Unit) × List (Int × (Int × (Int × Int × Int × Int × Int × Int × Int × Int × Unit) × Int × Unit) × Int × Bool × Bool × Unit) × List (Int × ByteArray × Int × Bool
  × Unit) × Int × List (Bool × Int × Int × Unit) × Unit) => x.snd.snd.snd.snd.fst) (Option.map (fun (x : ((List (ByteArray × List (List (Int × (Int × Int × Int × Int × Int × Int × Int × Int × Unit) × Int × Unit)) × Unit)
  × List ((Int × (Int × Int × Int × Int × Int × Int × Int × Int × Unit) × Int × Unit) × List Int × Unit) × Int × List Int × Unit) × Int × List ((Int × (Int × Int × Int × Int × Int × Int × Int × Int × Unit) × Int × Unit) ×
  Int × Int × Int × Bool × Unit) × List (Int × (Int × (Int × Int × Int × Int × Int × Int × Int × Int × Unit) × Int × Unit) × Int × Bool × Bool × Unit) × List (Int × ByteArray × Int × Bool × Unit) × Int × List (Bool × Int
  × Int × Unit) × Unit) × Unit) => x.fst) x.fst)) (Ty.zero (Ty.sl LookT)) = Option.getD (Option.map (fun (x : (List (ByteArray × List (List (Int × (Int × Int × Int × Int × Int × Int × Int × Int × Unit) × Int × Unit)) ×
  Unit) × List ((Int × (Int × Int × Int × Int × Int × Int × Int × Int × Unit) × Int × Unit) × List Int × Unit) × Int × List Int × Unit) × Int × List ((Int × (Int × Int × Int × Int × Int × Int × Int × Int × Unit) × Int ×
  Unit) × Int × Int × Int × Bool × Unit) × List (Int × (Int × (Int × Int × Int × Int × Int × Int × Int × Int × Unit) × Int × Unit) × Int × Bool × Bool × Unit) × List (Int × ByteArray × Int × Bool × Unit) × Int × List
  (Bool × Int × Int × Unit) × Unit) => x.snd.snd.snd.snd.fst) (Option.map (fun (x : ((List (ByteArray × List (List (Int × (Int × Int × Int × Int × Int × Int × Int × Int × Unit) × Int × Unit)) × Unit) × List ((Int × (Int ×
  Int × Int × Int × Int × Int × Int × Int × Unit) × Int × Unit) × List Int × Unit) × Int × List Int × Unit) × Int × List ((Int × (Int × Int × Int × Int × Int × Int × Int × Int × Unit) × Int × Unit) × Int × Int × Int ×
  Bool × Unit) × List (Int × (Int × (Int × Int × Int × Int × Int × Int × Int × Int × Unit) × Int × Unit) × Int × Bool × Bool × Unit) × List (Int × ByteArray × Int × Bool × Unit) × Int × List (Bool × Int × Int × Unit) ×
  Unit) × Unit) => x.fst) x.fst)) (Ty.zero (Ty.sl LookT))) ∧ Wr ((↑(List.length (Option.getD (Option.map (fun (x : (List (ByteArray × List (List (Int × (Int × Int × Int × Int × Int × Int × Int × Int × Unit) × Int × Unit))
  × Unit) × List ((Int × (Int × Int × Int × Int × Int × Int × Int × Int × Unit) × Int × Unit) × List Int × Unit) × Int × List Int × Unit) × Int × List ((Int × (Int × Int × Int × Int × Int × Int × Int × Int × Unit) × Int ×
  Unit) × Int × Int × Int × Bool × Unit) × List (Int × (Int × (Int × Int × Int × Int × Int × Int × Int × Int × Unit) × Int × Unit) × Int × Bool × Bool × Unit) × List (Int × ByteArray × Int × Bool × Unit) × Int × List
  (Bool × Int × Int × Unit) × Unit) => x.snd.snd.snd.snd.fst) (Option.map (fun (x : ((List (ByteArray × List (List (Int × (Int × Int × Int × Int × Int × Int × Int × Int × Unit) × Int × Unit)) × Unit) × List ((Int × (Int ×
  Int × Int × Int × Int × Int × Int × Int × Unit) × Int × Unit) × List Int × Unit) × Int × List Int × Unit) × Int × List ((Int × (Int × Int × Int × Int × Int × Int × Int × Int × Unit) × Int × Unit) × Int × Int × Int ×
  Bool × Unit) × List (Int × (Int × (Int × Int × Int × Int × Int × Int × Int × Int × Unit) × Int × Unit) × Int × Bool × Bool × Unit) × List (Int × ByteArray × Int × Bool × Unit) × Int × List (Bool × Int × Int × Unit) ×
  Unit) × Unit) => x.fst) x.fst)) (Ty.zero (Ty.sl LookT)))) : Int) = (↑(List.length (Option.getD (Option.map (fun (x : (List (ByteArray × List (List (Int × (Int × Int × Int × Int × Int × Int × Int × Int × Unit) × Int ×
  Unit)) × Unit) × List ((Int × (Int × Int × Int × Int × Int × Int × Int × Int × Unit) × Int × Unit) × List Int × Unit) × Int × List Int × Unit) × Int × List ((Int × (Int × Int × Int × Int × Int × Int × Int × Int × Unit)
  × Int × Unit) × Int × Int × Int × Bool × Unit) × List (Int × (Int × (Int × Int × Int × Int × Int × Int × Int × Int × Unit) × Int × Unit) × Int × Bool × Bool × Unit) × List (Int × ByteArray × Int × Bool × Unit) × Int ×
  List (Bool × Int × Int × Unit) × Unit) => x.snd.snd.snd.snd.fst) (Option.map (fun (x : ((List (ByteArray × List (List (Int × (Int × Int × Int × Int × Int × Int × Int × Int × Unit) × Int × Unit)) × Unit) × List ((Int ×
  (Int × Int × Int × Int × Int × Int × Int × Int × Unit) × Int × Unit) × List Int × Unit) × Int × List Int × Unit) × Int × List ((Int × (Int × Int × Int × Int × Int × Int × Int × Int × Unit) × Int × Unit) × Int × Int ×
  Int × Bool × Unit) × List (Int × (Int × (Int × Int × Int × Int × Int × Int × Int × Int × Unit) × Int × Unit) × Int × Bool × Bool × Unit) × List (Int × ByteArray × Int × Bool × Unit) × Int × List (Bool × Int × Int ×
  Unit) × Unit) × Unit) => x.fst) x.fst)) (Ty.zero (Ty.sl LookT)))) : Int)) ∧ Wr (x.snd.fst = x.snd.fst))) (((-1 : Int), ()) = (ixL (glW x.fst).snd.snd.snd.snd.fst x.snd.fst, ()))) := by kernel_rfl
theorem v29_eq : vcFn g29 300 Tryz.f29 cAsk = ( ∀ (x : ((List (ByteArray × List (List (Int × (Int × Int × Int × Int × Int × Int × Int × Int × Unit) × Int × Unit)) × Unit) × List ((Int × (Int × Int × Int × Int × Int × Int × Int × Int × Unit) × Int × Unit) × List Int ×
  Unit) × Int × List Int × Unit) × Int × List ((Int × (Int × Int × Int × Int × Int × Int × Int × Int × Unit) × Int × Unit) × Int × Int × Int × Bool × Unit) × List (Int × (Int × (Int × Int × Int × Int × Int × Int × Int ×
  Int × Unit) × Int × Unit) × Int × Bool × Bool × Unit) × List (Int × ByteArray × Int × Bool × Unit) × Int × List (Bool × Int × Int × Unit) × Unit) × Int × ByteArray × Unit), Wr (okK x.fst = Bool.true) → Wr (okKG
  (Option.some (x.fst, ())) = Bool.true) ∧ bcase (Decidable.decide (ixL (glW (Option.some (x.fst, ()))).snd.snd.snd.snd.fst x.snd.fst ≥ (0 : Int))) ((x.fst, (101 : Int), ()) = (askW x.fst x.snd.fst x.snd.snd.fst, askE
  x.fst x.snd.fst, ())) ((Wr (CntI (nmIs x.snd.snd.fst) x.fst.snd.snd.snd.snd.fst (0 : Int) (0 : Int)) ∧ Wr ((0 : Int) = (0 : Int)) ∧ Wr ((0 : Int) = (0 : Int)) ∧ Wr (x.fst.snd.snd.snd.snd.fst = x.fst.snd.snd.snd.snd.fst)
  ∧ Wr (x.fst.snd.snd.snd.snd.fst = x.fst.snd.snd.snd.snd.fst) ∧ Wr ((↑(List.length x.fst.snd.snd.snd.snd.fst) : Int) = (↑(List.length x.fst.snd.snd.snd.snd.fst) : Int)) ∧ Wr (x.fst.fst.fst = x.fst.fst.fst) ∧ Wr
  (x.fst.fst.snd.fst = x.fst.fst.snd.fst) ∧ Wr (x.fst.fst.snd.snd.fst = x.fst.fst.snd.snd.fst) ∧ Wr (x.fst.fst.snd.snd.snd.fst = x.fst.fst.snd.snd.snd.fst) ∧ Wr (x.fst.snd.fst = x.fst.snd.fst) ∧ Wr (x.fst.snd.snd.fst =
  x.fst.snd.snd.fst) ∧ Wr (x.fst.snd.snd.snd.fst = x.fst.snd.snd.snd.fst) ∧ Wr (x.fst.snd.snd.snd.snd.fst = x.fst.snd.snd.snd.snd.fst) ∧ Wr (x.fst.snd.snd.snd.snd.snd.fst = x.fst.snd.snd.snd.snd.snd.fst) ∧ Wr
  (x.fst.snd.snd.snd.snd.snd.snd.fst = x.fst.snd.snd.snd.snd.snd.snd.fst) ∧ Wr ((0 : Int) = (0 : Int)) ∧ Wr ((0 : Int) = (0 : Int)) ∧ Wr ((0 : Int) = (0 : Int)) ∧ Wr (x.snd.snd.fst = x.snd.snd.fst) ∧ Wr (x.fst.fst.fst =
  x.fst.fst.fst) ∧ Wr (x.fst.fst.snd.fst = x.fst.fst.snd.fst) ∧ Wr (x.fst.fst.snd.snd.fst = x.fst.fst.snd.snd.fst) ∧ Wr (x.fst.fst.snd.snd.snd.fst = x.fst.fst.snd.snd.snd.fst) ∧ Wr (x.fst.snd.fst = x.fst.snd.fst) ∧ Wr
  (x.fst.snd.snd.fst = x.fst.snd.snd.fst) ∧ Wr (x.fst.snd.snd.snd.fst = x.fst.snd.snd.snd.fst) ∧ Wr (x.fst.snd.snd.snd.snd.fst = x.fst.snd.snd.snd.snd.fst) ∧ Wr (x.fst.snd.snd.snd.snd.snd.fst =
  x.fst.snd.snd.snd.snd.snd.fst) ∧ Wr (x.fst.snd.snd.snd.snd.snd.snd.fst = x.fst.snd.snd.snd.snd.snd.snd.fst)) ∧ ∀ (x_1 : Int × Int), Wr (CntI (nmIs x.snd.snd.fst) x.fst.snd.snd.snd.snd.fst x_1.fst x_1.snd) → bcase
  (Decidable.decide (x_1.fst < (↑(List.length x.fst.snd.snd.snd.snd.fst) : Int))) (Wr ((0 : Int) ≤ x_1.fst) ∧ Wr (x_1.fst < (↑(List.length x.fst.snd.snd.snd.snd.fst) : Int)) ∧ Wr (Bool.true = Bool.true) ∧ bcase
  (Decidable.decide ((List.getD x.fst.snd.snd.snd.snd.fst (Int.toNat x_1.fst) (Ty.zero LookT)).snd.fst = x.snd.snd.fst)) (Wr (CntI (nmIs x.snd.snd.fst) x.fst.snd.snd.snd.snd.fst (IntKind.wrap IntKind.i64 (x_1.fst + (1 :
  Int))) (IntKind.wrap IntKind.i64 (x_1.snd + (1 : Int)))) ∧ Wr (List.length x.fst.snd.snd.snd.snd.fst - Int.toNat (IntKind.wrap IntKind.i64 (x_1.fst + (1 : Int))) < List.length x.fst.snd.snd.snd.snd.fst - Int.toNat
  x_1.fst) ∧ Wr (IntKind.wrap IntKind.i64 (x_1.fst + (1 : Int)) = IntKind.wrap IntKind.i64 (x_1.fst + (1 : Int))) ∧ Wr (IntKind.wrap IntKind.i64 (x_1.snd + (1 : Int)) = IntKind.wrap IntKind.i64 (x_1.snd + (1 : Int))) ∧ Wr
  (x.fst.snd.snd.snd.snd.fst = x.fst.snd.snd.snd.snd.fst) ∧ Wr (x.fst.snd.snd.snd.snd.fst = x.fst.snd.snd.snd.snd.fst) ∧ Wr ((↑(List.length x.fst.snd.snd.snd.snd.fst) : Int) = (↑(List.length x.fst.snd.snd.snd.snd.fst) :
  Int)) ∧ Wr (x.fst.fst.fst = x.fst.fst.fst) ∧ Wr (x.fst.fst.snd.fst = x.fst.fst.snd.fst) ∧ Wr (x.fst.fst.snd.snd.fst = x.fst.fst.snd.snd.fst) ∧ Wr (x.fst.fst.snd.snd.snd.fst = x.fst.fst.snd.snd.snd.fst) ∧ Wr
  (x.fst.snd.fst = x.fst.snd.fst) ∧ Wr (x.fst.snd.snd.fst = x.fst.snd.snd.fst) ∧ Wr (x.fst.snd.snd.snd.fst = x.fst.snd.snd.snd.fst) ∧ Wr (x.fst.snd.snd.snd.snd.fst = x.fst.snd.snd.snd.snd.fst) ∧ Wr
  (x.fst.snd.snd.snd.snd.snd.fst = x.fst.snd.snd.snd.snd.snd.fst) ∧ Wr (x.fst.snd.snd.snd.snd.snd.snd.fst = x.fst.snd.snd.snd.snd.snd.snd.fst) ∧ Wr ((0 : Int) = (0 : Int)) ∧ Wr ((0 : Int) = (0 : Int)) ∧ Wr ((0 : Int) = (0
  : Int)) ∧ Wr (x.snd.snd.fst = x.snd.snd.fst) ∧ Wr (x.fst.fst.fst = x.fst.fst.fst) ∧ Wr (x.fst.fst.snd.fst = x.fst.fst.snd.fst) ∧ Wr (x.fst.fst.snd.snd.fst = x.fst.fst.snd.snd.fst) ∧ Wr (x.fst.fst.snd.snd.snd.fst =
  x.fst.fst.snd.snd.snd.fst) ∧ Wr (x.fst.snd.fst = x.fst.snd.fst) ∧ Wr (x.fst.snd.snd.fst = x.fst.snd.snd.fst) ∧ Wr (x.fst.snd.snd.snd.fst = x.fst.snd.snd.snd.fst) ∧ Wr (x.fst.snd.snd.snd.snd.fst =
  x.fst.snd.snd.snd.snd.fst) ∧ Wr (x.fst.snd.snd.snd.snd.snd.fst = x.fst.snd.snd.snd.snd.snd.fst) ∧ Wr (x.fst.snd.snd.snd.snd.snd.snd.fst = x.fst.snd.snd.snd.snd.snd.snd.fst)) (Wr (CntI (nmIs x.snd.snd.fst)
  x.fst.snd.snd.snd.snd.fst (IntKind.wrap IntKind.i64 (x_1.fst + (1 : Int))) x_1.snd) ∧ Wr (List.length x.fst.snd.snd.snd.snd.fst - Int.toNat (IntKind.wrap IntKind.i64 (x_1.fst + (1 : Int))) < List.length
  x.fst.snd.snd.snd.snd.fst - Int.toNat x_1.fst) ∧ Wr (IntKind.wrap IntKind.i64 (x_1.fst + (1 : Int)) = IntKind.wrap IntKind.i64 (x_1.fst + (1 : Int))) ∧ Wr (x_1.snd = x_1.snd) ∧ Wr (x.fst.snd.snd.snd.snd.fst =
  x.fst.snd.snd.snd.snd.fst) ∧ Wr (x.fst.snd.snd.snd.snd.fst = x.fst.snd.snd.snd.snd.fst) ∧ Wr ((↑(List.length x.fst.snd.snd.snd.snd.fst) : Int) = (↑(List.length x.fst.snd.snd.snd.snd.fst) : Int)) ∧ Wr (x.fst.fst.fst =
  x.fst.fst.fst) ∧ Wr (x.fst.fst.snd.fst = x.fst.fst.snd.fst) ∧ Wr (x.fst.fst.snd.snd.fst = x.fst.fst.snd.snd.fst) ∧ Wr (x.fst.fst.snd.snd.snd.fst = x.fst.fst.snd.snd.snd.fst) ∧ Wr (x.fst.snd.fst = x.fst.snd.fst) ∧ Wr
  (x.fst.snd.snd.fst = x.fst.snd.snd.fst) ∧ Wr (x.fst.snd.snd.snd.fst = x.fst.snd.snd.snd.fst) ∧ Wr (x.fst.snd.snd.snd.snd.fst = x.fst.snd.snd.snd.snd.fst) ∧ Wr (x.fst.snd.snd.snd.snd.snd.fst =
  x.fst.snd.snd.snd.snd.snd.fst) ∧ Wr (x.fst.snd.snd.snd.snd.snd.snd.fst = x.fst.snd.snd.snd.snd.snd.snd.fst) ∧ Wr ((0 : Int) = (0 : Int)) ∧ Wr ((0 : Int) = (0 : Int)) ∧ Wr ((0 : Int) = (0 : Int)) ∧ Wr (x.snd.snd.fst =
  x.snd.snd.fst) ∧ Wr (x.fst.fst.fst = x.fst.fst.fst) ∧ Wr (x.fst.fst.snd.fst = x.fst.fst.snd.fst) ∧ Wr (x.fst.fst.snd.snd.fst = x.fst.fst.snd.snd.fst) ∧ Wr (x.fst.fst.snd.snd.snd.fst = x.fst.fst.snd.snd.snd.fst) ∧ Wr
  (x.fst.snd.fst = x.fst.snd.fst) ∧ Wr (x.fst.snd.snd.fst = x.fst.snd.snd.fst) ∧ Wr (x.fst.snd.snd.snd.fst = x.fst.snd.snd.snd.fst) ∧ Wr (x.fst.snd.snd.snd.snd.fst = x.fst.snd.snd.snd.snd.fst) ∧ Wr
  (x.fst.snd.snd.snd.snd.snd.fst = x.fst.snd.snd.snd.snd.snd.fst) ∧ Wr (x.fst.snd.snd.snd.snd.snd.snd.fst = x.fst.snd.snd.snd.snd.snd.snd.fst))) (Wr True ∧ Wr ((List.length x.fst.snd.snd.snd.snd.fst + List.length
  ((x.snd.fst, x.snd.snd.fst, x_1.snd, Bool.false, ()) :: nilL (Int × ByteArray × Int × Bool × Unit))) * (40 : Nat) ≤ (140737488355328 : Nat)) ∧ Wr ((0 : Nat) < List.length ((x.snd.fst, x.snd.snd.fst, x_1.snd, Bool.false,
  ()) :: nilL (Int × ByteArray × Int × Bool × Unit))) ∧ ((x.fst.fst, x.fst.snd.fst, x.fst.snd.snd.fst, x.fst.snd.snd.snd.fst, x.fst.snd.snd.snd.snd.fst ++ (x.snd.fst, x.snd.snd.fst, x_1.snd, Bool.false, ()) :: nilL (Int ×
  ByteArray × Int × Bool × Unit), x.fst.snd.snd.snd.snd.snd), (0 : Int), ()) = (askW x.fst x.snd.fst x.snd.snd.fst, askE x.fst x.snd.fst, ())))) := by kernel_rfl
theorem v30_eq : vcFn g30 300 Tryz.f30 cAsked = ( ∀ (x : ((List (ByteArray × List (List (Int × (Int × Int × Int × Int × Int × Int × Int × Int × Unit) × Int × Unit)) × Unit) × List ((Int × (Int × Int × Int × Int × Int × Int × Int × Int × Unit) × Int × Unit) × List Int ×
  Unit) × Int × List Int × Unit) × Int × List ((Int × (Int × Int × Int × Int × Int × Int × Int × Int × Unit) × Int × Unit) × Int × Int × Int × Bool × Unit) × List (Int × (Int × (Int × Int × Int × Int × Int × Int × Int ×
  Int × Unit) × Int × Unit) × Int × Bool × Bool × Unit) × List (Int × ByteArray × Int × Bool × Unit) × Int × List (Bool × Int × Int × Unit) × Unit) × Int × Unit), Wr (okK x.fst = Bool.true) → Wr (okKG (Option.some (x.fst,
  ())) = Bool.true) ∧ Wr (Decidable.decide (ixL (glW (Option.some (x.fst, ()))).snd.snd.snd.snd.fst x.snd.fst ≥ (0 : Int)) = Bool.true → (0 : Int) ≤ ixL (glW (Option.some (x.fst, ()))).snd.snd.snd.snd.fst x.snd.fst) ∧ Wr
  (Decidable.decide (ixL (glW (Option.some (x.fst, ()))).snd.snd.snd.snd.fst x.snd.fst ≥ (0 : Int)) = Bool.true → ixL (glW (Option.some (x.fst, ()))).snd.snd.snd.snd.fst x.snd.fst < (↑(List.length
  x.fst.snd.snd.snd.snd.fst) : Int)) ∧ Wr (Decidable.decide (ixL (glW (Option.some (x.fst, ()))).snd.snd.snd.snd.fst x.snd.fst ≥ (0 : Int)) = Bool.true → Bool.true = Bool.true) ∧ Wr (Decidable.decide (ixL (glW
  (Option.some (x.fst, ()))).snd.snd.snd.snd.fst x.snd.fst ≥ (0 : Int)) = Bool.true → Bool.true = Bool.true) ∧ (Decidable.decide (ixL (glW (Option.some (x.fst, ()))).snd.snd.snd.snd.fst x.snd.fst ≥ (0 : Int)) &&
  !(List.getD x.fst.snd.snd.snd.snd.fst (Int.toNat (ixL (glW (Option.some (x.fst, ()))).snd.snd.snd.snd.fst x.snd.fst)) (Ty.zero LookT)).snd.snd.snd.fst, ()) = (askedW x.fst x.snd.fst, ())) := by kernel_rfl
theorem v31_eq : vcFn g31 300 Tryz.f31 cAnsW = ( ∀ (x : ((List (ByteArray × List (List (Int × (Int × Int × Int × Int × Int × Int × Int × Int × Unit) × Int × Unit)) × Unit) × List ((Int × (Int × Int × Int × Int × Int × Int × Int × Int × Unit) × Int × Unit) × List Int ×
  Unit) × Int × List Int × Unit) × Int × List ((Int × (Int × Int × Int × Int × Int × Int × Int × Int × Unit) × Int × Unit) × Int × Int × Int × Bool × Unit) × List (Int × (Int × (Int × Int × Int × Int × Int × Int × Int ×
  Int × Unit) × Int × Unit) × Int × Bool × Bool × Unit) × List (Int × ByteArray × Int × Bool × Unit) × Int × List (Bool × Int × Int × Unit) × Unit) × Int × Unit), Wr ((okK x.fst && checkB x.fst.fst) = Bool.true) → Wr (okK
  x.fst = Bool.true) ∧ bcase (!askedW x.fst x.snd.fst) ((x.fst, ((0 : Int), (0 : Int), (0 : Int), (0 : Int), ByteArray.mk (List.toArray (nilL UInt8)), (0 : Int), ()), (101 : Int), ()) = (ansW x.fst x.snd.fst, ansM x.fst
  x.snd.fst, ansErr x.fst x.snd.fst, ())) (Wr (okKG (Option.some (x.fst, ())) = Bool.true) ∧ Wr (Decidable.decide (List.length x.fst.snd.snd.snd.snd.fst * (40 : Nat) ≤ (140737488355328 : Nat)) = Bool.true) ∧ Wr ((0 : Int)
  ≤ ixL (glW (Option.some (x.fst, ()))).snd.snd.snd.snd.fst x.snd.fst) ∧ Wr (ixL (glW (Option.some (x.fst, ()))).snd.snd.snd.snd.fst x.snd.fst < (↑(List.length x.fst.snd.snd.snd.snd.fst) : Int)) ∧ Wr ((0 : Int) ≤ ixL (glW
  (Option.some (x.fst, ()))).snd.snd.snd.snd.fst x.snd.fst) ∧ Wr (ixL (glW (Option.some (x.fst, ()))).snd.snd.snd.snd.fst x.snd.fst < (↑(List.length (List.set x.fst.snd.snd.snd.snd.fst (Int.toNat (ixL (glW (Option.some
  (x.fst, ()))).snd.snd.snd.snd.fst x.snd.fst)) ((List.getD x.fst.snd.snd.snd.snd.fst (Int.toNat (ixL (glW (Option.some (x.fst, ()))).snd.snd.snd.snd.fst x.snd.fst)) (Ty.zero LookT)).fst, (List.getD
  x.fst.snd.snd.snd.snd.fst (Int.toNat (ixL (glW (Option.some (x.fst, ()))).snd.snd.snd.snd.fst x.snd.fst)) (Ty.zero LookT)).snd.fst, (List.getD x.fst.snd.snd.snd.snd.fst (Int.toNat (ixL (glW (Option.some (x.fst,
  ()))).snd.snd.snd.snd.fst x.snd.fst)) (Ty.zero LookT)).snd.snd.fst, Bool.true, ()))) : Int)) ∧ Wr ((0 : Int) ≤ ixL (glW (Option.some (x.fst, ()))).snd.snd.snd.snd.fst x.snd.fst) ∧ Wr (ixL (glW (Option.some (x.fst,
  ()))).snd.snd.snd.snd.fst x.snd.fst < (↑(List.length (List.set x.fst.snd.snd.snd.snd.fst (Int.toNat (ixL (glW (Option.some (x.fst, ()))).snd.snd.snd.snd.fst x.snd.fst)) ((List.getD x.fst.snd.snd.snd.snd.fst (Int.toNat
  (ixL (glW (Option.some (x.fst, ()))).snd.snd.snd.snd.fst x.snd.fst)) (Ty.zero LookT)).fst, (List.getD x.fst.snd.snd.snd.snd.fst (Int.toNat (ixL (glW (Option.some (x.fst, ()))).snd.snd.snd.snd.fst x.snd.fst)) (Ty.zero
  LookT)).snd.fst, (List.getD x.fst.snd.snd.snd.snd.fst (Int.toNat (ixL (glW (Option.some (x.fst, ()))).snd.snd.snd.snd.fst x.snd.fst)) (Ty.zero LookT)).snd.snd.fst, Bool.true, ()))) : Int)) ∧ Wr (checkB x.fst.fst =
  Bool.true) ∧ Wr (lenA (ansR x.fst.fst (List.getD (List.set x.fst.snd.snd.snd.snd.fst (Int.toNat (ixL (glW (Option.some (x.fst, ()))).snd.snd.snd.snd.fst x.snd.fst)) ((List.getD x.fst.snd.snd.snd.snd.fst (Int.toNat (ixL
  (glW (Option.some (x.fst, ()))).snd.snd.snd.snd.fst x.snd.fst)) (Ty.zero LookT)).fst, (List.getD x.fst.snd.snd.snd.snd.fst (Int.toNat (ixL (glW (Option.some (x.fst, ()))).snd.snd.snd.snd.fst x.snd.fst)) (Ty.zero
  LookT)).snd.fst, (List.getD x.fst.snd.snd.snd.snd.fst (Int.toNat (ixL (glW (Option.some (x.fst, ()))).snd.snd.snd.snd.fst x.snd.fst)) (Ty.zero LookT)).snd.snd.fst, Bool.true, ())) (Int.toNat (ixL (glW (Option.some
  (x.fst, ()))).snd.snd.snd.snd.fst x.snd.fst)) (Ty.zero LookT)).snd.fst (List.getD (List.set x.fst.snd.snd.snd.snd.fst (Int.toNat (ixL (glW (Option.some (x.fst, ()))).snd.snd.snd.snd.fst x.snd.fst)) ((List.getD
  x.fst.snd.snd.snd.snd.fst (Int.toNat (ixL (glW (Option.some (x.fst, ()))).snd.snd.snd.snd.fst x.snd.fst)) (Ty.zero LookT)).fst, (List.getD x.fst.snd.snd.snd.snd.fst (Int.toNat (ixL (glW (Option.some (x.fst,
  ()))).snd.snd.snd.snd.fst x.snd.fst)) (Ty.zero LookT)).snd.fst, (List.getD x.fst.snd.snd.snd.snd.fst (Int.toNat (ixL (glW (Option.some (x.fst, ()))).snd.snd.snd.snd.fst x.snd.fst)) (Ty.zero LookT)).snd.snd.fst,
  Bool.true, ())) (Int.toNat (ixL (glW (Option.some (x.fst, ()))).snd.snd.snd.snd.fst x.snd.fst)) (Ty.zero LookT)).snd.snd.fst) = Bool.true) ∧ bcase (!Decidable.decide (ansE x.fst.fst (List.getD (List.set
  x.fst.snd.snd.snd.snd.fst (Int.toNat (ixL (glW (Option.some (x.fst, ()))).snd.snd.snd.snd.fst x.snd.fst)) ((List.getD x.fst.snd.snd.snd.snd.fst (Int.toNat (ixL (glW (Option.some (x.fst, ()))).snd.snd.snd.snd.fst
  x.snd.fst)) (Ty.zero LookT)).fst, (List.getD x.fst.snd.snd.snd.snd.fst (Int.toNat (ixL (glW (Option.some (x.fst, ()))).snd.snd.snd.snd.fst x.snd.fst)) (Ty.zero LookT)).snd.fst, (List.getD x.fst.snd.snd.snd.snd.fst
  (Int.toNat (ixL (glW (Option.some (x.fst, ()))).snd.snd.snd.snd.fst x.snd.fst)) (Ty.zero LookT)).snd.snd.fst, Bool.true, ())) (Int.toNat (ixL (glW (Option.some (x.fst, ()))).snd.snd.snd.snd.fst x.snd.fst)) (Ty.zero
  LookT)).snd.fst (List.getD (List.set x.fst.snd.snd.snd.snd.fst (Int.toNat (ixL (glW (Option.some (x.fst, ()))).snd.snd.snd.snd.fst x.snd.fst)) ((List.getD x.fst.snd.snd.snd.snd.fst (Int.toNat (ixL (glW (Option.some
  (x.fst, ()))).snd.snd.snd.snd.fst x.snd.fst)) (Ty.zero LookT)).fst, (List.getD x.fst.snd.snd.snd.snd.fst (Int.toNat (ixL (glW (Option.some (x.fst, ()))).snd.snd.snd.snd.fst x.snd.fst)) (Ty.zero LookT)).snd.fst,
  (List.getD x.fst.snd.snd.snd.snd.fst (Int.toNat (ixL (glW (Option.some (x.fst, ()))).snd.snd.snd.snd.fst x.snd.fst)) (Ty.zero LookT)).snd.snd.fst, Bool.true, ())) (Int.toNat (ixL (glW (Option.some (x.fst,
  ()))).snd.snd.snd.snd.fst x.snd.fst)) (Ty.zero LookT)).snd.snd.fst = (0 : Int)) || !Decidable.decide (Go.Ad.row2 (ansR x.fst.fst (List.getD (List.set x.fst.snd.snd.snd.snd.fst (Int.toNat (ixL (glW (Option.some (x.fst,
  ()))).snd.snd.snd.snd.fst x.snd.fst)) ((List.getD x.fst.snd.snd.snd.snd.fst (Int.toNat (ixL (glW (Option.some (x.fst, ()))).snd.snd.snd.snd.fst x.snd.fst)) (Ty.zero LookT)).fst, (List.getD x.fst.snd.snd.snd.snd.fst
  (Int.toNat (ixL (glW (Option.some (x.fst, ()))).snd.snd.snd.snd.fst x.snd.fst)) (Ty.zero LookT)).snd.fst, (List.getD x.fst.snd.snd.snd.snd.fst (Int.toNat (ixL (glW (Option.some (x.fst, ()))).snd.snd.snd.snd.fst
  x.snd.fst)) (Ty.zero LookT)).snd.snd.fst, Bool.true, ())) (Int.toNat (ixL (glW (Option.some (x.fst, ()))).snd.snd.snd.snd.fst x.snd.fst)) (Ty.zero LookT)).snd.fst (List.getD (List.set x.fst.snd.snd.snd.snd.fst
  (Int.toNat (ixL (glW (Option.some (x.fst, ()))).snd.snd.snd.snd.fst x.snd.fst)) ((List.getD x.fst.snd.snd.snd.snd.fst (Int.toNat (ixL (glW (Option.some (x.fst, ()))).snd.snd.snd.snd.fst x.snd.fst)) (Ty.zero LookT)).fst,
  (List.getD x.fst.snd.snd.snd.snd.fst (Int.toNat (ixL (glW (Option.some (x.fst, ()))).snd.snd.snd.snd.fst x.snd.fst)) (Ty.zero LookT)).snd.fst, (List.getD x.fst.snd.snd.snd.snd.fst (Int.toNat (ixL (glW (Option.some
  (x.fst, ()))).snd.snd.snd.snd.fst x.snd.fst)) (Ty.zero LookT)).snd.snd.fst, Bool.true, ())) (Int.toNat (ixL (glW (Option.some (x.fst, ()))).snd.snd.snd.snd.fst x.snd.fst)) (Ty.zero LookT)).snd.snd.fst) = (0 : Int)))
  (((x.fst.fst, x.fst.snd.fst, x.fst.snd.snd.fst, x.fst.snd.snd.snd.fst, List.set x.fst.snd.snd.snd.snd.fst (Int.toNat (ixL (glW (Option.some (x.fst, ()))).snd.snd.snd.snd.fst x.snd.fst)) ((List.getD
  x.fst.snd.snd.snd.snd.fst (Int.toNat (ixL (glW (Option.some (x.fst, ()))).snd.snd.snd.snd.fst x.snd.fst)) (Ty.zero LookT)).fst, (List.getD x.fst.snd.snd.snd.snd.fst (Int.toNat (ixL (glW (Option.some (x.fst,
  ()))).snd.snd.snd.snd.fst x.snd.fst)) (Ty.zero LookT)).snd.fst, (List.getD x.fst.snd.snd.snd.snd.fst (Int.toNat (ixL (glW (Option.some (x.fst, ()))).snd.snd.snd.snd.fst x.snd.fst)) (Ty.zero LookT)).snd.snd.fst,
  Bool.true, ()), x.fst.snd.snd.snd.snd.snd), ((7 : Int), (0 : Int), (0 : Int), (0 : Int), ByteArray.mk (List.toArray (nilL UInt8)), (110 : Int), ()), (0 : Int), ()) = (ansW x.fst x.snd.fst, ansM x.fst x.snd.fst, ansErr
  x.fst x.snd.fst, ())) (((x.fst.fst, x.fst.snd.fst, x.fst.snd.snd.fst, x.fst.snd.snd.snd.fst, List.set x.fst.snd.snd.snd.snd.fst (Int.toNat (ixL (glW (Option.some (x.fst, ()))).snd.snd.snd.snd.fst x.snd.fst)) ((List.getD
  x.fst.snd.snd.snd.snd.fst (Int.toNat (ixL (glW (Option.some (x.fst, ()))).snd.snd.snd.snd.fst x.snd.fst)) (Ty.zero LookT)).fst, (List.getD x.fst.snd.snd.snd.snd.fst (Int.toNat (ixL (glW (Option.some (x.fst,
  ()))).snd.snd.snd.snd.fst x.snd.fst)) (Ty.zero LookT)).snd.fst, (List.getD x.fst.snd.snd.snd.snd.fst (Int.toNat (ixL (glW (Option.some (x.fst, ()))).snd.snd.snd.snd.fst x.snd.fst)) (Ty.zero LookT)).snd.snd.fst,
  Bool.true, ()), x.fst.snd.snd.snd.snd.snd), ((7 : Int), (0 : Int), (0 : Int), (0 : Int), Go.Ad.row1 (ansR x.fst.fst (List.getD (List.set x.fst.snd.snd.snd.snd.fst (Int.toNat (ixL (glW (Option.some (x.fst,
  ()))).snd.snd.snd.snd.fst x.snd.fst)) ((List.getD x.fst.snd.snd.snd.snd.fst (Int.toNat (ixL (glW (Option.some (x.fst, ()))).snd.snd.snd.snd.fst x.snd.fst)) (Ty.zero LookT)).fst, (List.getD x.fst.snd.snd.snd.snd.fst
  (Int.toNat (ixL (glW (Option.some (x.fst, ()))).snd.snd.snd.snd.fst x.snd.fst)) (Ty.zero LookT)).snd.fst, (List.getD x.fst.snd.snd.snd.snd.fst (Int.toNat (ixL (glW (Option.some (x.fst, ()))).snd.snd.snd.snd.fst
  x.snd.fst)) (Ty.zero LookT)).snd.snd.fst, Bool.true, ())) (Int.toNat (ixL (glW (Option.some (x.fst, ()))).snd.snd.snd.snd.fst x.snd.fst)) (Ty.zero LookT)).snd.fst (List.getD (List.set x.fst.snd.snd.snd.snd.fst
  (Int.toNat (ixL (glW (Option.some (x.fst, ()))).snd.snd.snd.snd.fst x.snd.fst)) ((List.getD x.fst.snd.snd.snd.snd.fst (Int.toNat (ixL (glW (Option.some (x.fst, ()))).snd.snd.snd.snd.fst x.snd.fst)) (Ty.zero LookT)).fst,
  (List.getD x.fst.snd.snd.snd.snd.fst (Int.toNat (ixL (glW (Option.some (x.fst, ()))).snd.snd.snd.snd.fst x.snd.fst)) (Ty.zero LookT)).snd.fst, (List.getD x.fst.snd.snd.snd.snd.fst (Int.toNat (ixL (glW (Option.some
  (x.fst, ()))).snd.snd.snd.snd.fst x.snd.fst)) (Ty.zero LookT)).snd.snd.fst, Bool.true, ())) (Int.toNat (ixL (glW (Option.some (x.fst, ()))).snd.snd.snd.snd.fst x.snd.fst)) (Ty.zero LookT)).snd.snd.fst), (0 : Int), ()),
  (0 : Int), ()) = (ansW x.fst x.snd.fst, ansM x.fst x.snd.fst, ansErr x.fst x.snd.fst, ())))) := by kernel_rfl
theorem v6_eq : vcFn g6 300 Tryz.f6 ((cLw aAns)) = ( ∀ (x : (List (ByteArray × List (List (Int × (Int × Int × Int × Int × Int × Int × Int × Int × Unit) × Int × Unit)) × Unit) × List ((Int × (Int × Int × Int × Int × Int × Int × Int × Int × Unit) × Int × Unit) × List Int ×
  Unit) × Int × List Int × Unit) × ByteArray × List Int × Unit), Wr True → Wr (Bool.true = Bool.true) ∧ (Wr ((0 : Int) ≤ (0 : Int)) ∧ Wr ((↑(List.length x.fst.snd.snd.snd.fst) : Int) = (↑(List.length
  x.fst.snd.snd.snd.fst) : Int)) ∧ Wr ((0 : Int) = (0 : Int)) ∧ Wr (x.fst.fst = x.fst.fst) ∧ Wr (x.fst.snd.fst = x.fst.snd.fst) ∧ Wr (x.fst.snd.snd.fst = x.fst.snd.snd.fst) ∧ Wr (x.fst.snd.snd.snd.fst =
  x.fst.snd.snd.snd.fst) ∧ Wr ((newW x.fst).fst.fst = (newW x.fst).fst.fst) ∧ Wr ((newW x.fst).fst.snd.fst = (newW x.fst).fst.snd.fst) ∧ Wr ((newW x.fst).fst.snd.snd.fst = (newW x.fst).fst.snd.snd.fst) ∧ Wr ((newW
  x.fst).fst.snd.snd.snd.fst = (newW x.fst).fst.snd.snd.snd.fst) ∧ Wr ((newW x.fst).snd.fst = (newW x.fst).snd.fst) ∧ Wr ((newW x.fst).snd.snd.fst = (newW x.fst).snd.snd.fst) ∧ Wr ((newW x.fst).snd.snd.snd.fst = (newW
  x.fst).snd.snd.snd.fst) ∧ Wr ((newW x.fst).snd.snd.snd.snd.fst = (newW x.fst).snd.snd.snd.snd.fst) ∧ Wr ((newW x.fst).snd.snd.snd.snd.snd.fst = (newW x.fst).snd.snd.snd.snd.snd.fst) ∧ Wr ((newW
  x.fst).snd.snd.snd.snd.snd.snd.fst = (newW x.fst).snd.snd.snd.snd.snd.snd.fst) ∧ Wr ((newW x.fst).fst.fst = (newW x.fst).fst.fst) ∧ Wr ((newW x.fst).fst.snd.fst = (newW x.fst).fst.snd.fst) ∧ Wr ((newW
  x.fst).fst.snd.snd.fst = (newW x.fst).fst.snd.snd.fst) ∧ Wr ((newW x.fst).fst.snd.snd.snd.fst = (newW x.fst).fst.snd.snd.snd.fst) ∧ Wr ((newW x.fst).snd.fst = (newW x.fst).snd.fst) ∧ Wr ((newW x.fst).snd.snd.fst = (newW
  x.fst).snd.snd.fst) ∧ Wr ((newW x.fst).snd.snd.snd.fst = (newW x.fst).snd.snd.snd.fst) ∧ Wr ((newW x.fst).snd.snd.snd.snd.fst = (newW x.fst).snd.snd.snd.snd.fst) ∧ Wr ((newW x.fst).snd.snd.snd.snd.snd.fst = (newW
  x.fst).snd.snd.snd.snd.snd.fst) ∧ Wr ((newW x.fst).snd.snd.snd.snd.snd.snd.fst = (newW x.fst).snd.snd.snd.snd.snd.snd.fst) ∧ Wr (x.fst.fst = x.fst.fst) ∧ Wr (x.fst.snd.fst = x.fst.snd.fst) ∧ Wr (x.fst.snd.snd.fst =
  x.fst.snd.snd.fst) ∧ Wr (x.fst.snd.snd.snd.fst = x.fst.snd.snd.snd.fst)) ∧ ∀ (x_1 : Int × Int), Wr ((0 : Int) ≤ x_1.snd) → bcase (Decidable.decide (x_1.snd < (↑(List.length x.fst.fst) : Int)) && Decidable.decide
  (x_1.snd ≤ (40 : Int))) (Wr ((0 : Int) ≤ x_1.snd) ∧ Wr (x_1.snd < (↑(List.length x.fst.fst) : Int)) ∧ Wr (Bool.true = Bool.true) ∧ Wr (Bool.true = Bool.true) ∧ Wr ((!Decidable.decide ((↑(List.length (List.getD x.fst.fst
  (Int.toNat x_1.snd) (Ty.zero ZoneT)).snd.fst) : Int) > (60 : Int))) = Bool.true → (0 : Int) ≤ x_1.snd) ∧ Wr ((!Decidable.decide ((↑(List.length (List.getD x.fst.fst (Int.toNat x_1.snd) (Ty.zero ZoneT)).snd.fst) : Int) >
  (60 : Int))) = Bool.true → x_1.snd < (↑(List.length x.fst.fst) : Int)) ∧ Wr ((!Decidable.decide ((↑(List.length (List.getD x.fst.fst (Int.toNat x_1.snd) (Ty.zero ZoneT)).snd.fst) : Int) > (60 : Int))) = Bool.true →
  Bool.true = Bool.true) ∧ Wr ((!Decidable.decide ((↑(List.length (List.getD x.fst.fst (Int.toNat x_1.snd) (Ty.zero ZoneT)).snd.fst) : Int) > (60 : Int))) = Bool.true → Bool.true = Bool.true) ∧ bcase (Decidable.decide
  ((↑(List.length (List.getD x.fst.fst (Int.toNat x_1.snd) (Ty.zero ZoneT)).snd.fst) : Int) > (60 : Int)) || Decidable.decide ((↑(ByteArray.size (List.getD x.fst.fst (Int.toNat x_1.snd) (Ty.zero ZoneT)).fst) : Int) > (400
  : Int))) (Wr True ∧ (Bool.true, ()) = (Bool.true, ())) ((Wr (Gr2I x.fst.fst x_1.snd (0 : Int)) ∧ Wr (x_1.fst = x_1.fst) ∧ Wr ((0 : Int) = (0 : Int)) ∧ Wr (x_1.snd = x_1.snd) ∧ Wr (x.fst.fst = x.fst.fst) ∧ Wr
  (x.fst.snd.fst = x.fst.snd.fst) ∧ Wr (x.fst.snd.snd.fst = x.fst.snd.snd.fst) ∧ Wr (x.fst.snd.snd.snd.fst = x.fst.snd.snd.snd.fst) ∧ Wr ((newW x.fst).fst.fst = (newW x.fst).fst.fst) ∧ Wr ((newW x.fst).fst.snd.fst = (newW
  x.fst).fst.snd.fst) ∧ Wr ((newW x.fst).fst.snd.snd.fst = (newW x.fst).fst.snd.snd.fst) ∧ Wr ((newW x.fst).fst.snd.snd.snd.fst = (newW x.fst).fst.snd.snd.snd.fst) ∧ Wr ((newW x.fst).snd.fst = (newW x.fst).snd.fst) ∧ Wr
  ((newW x.fst).snd.snd.fst = (newW x.fst).snd.snd.fst) ∧ Wr ((newW x.fst).snd.snd.snd.fst = (newW x.fst).snd.snd.snd.fst) ∧ Wr ((newW x.fst).snd.snd.snd.snd.fst = (newW x.fst).snd.snd.snd.snd.fst) ∧ Wr ((newW
  x.fst).snd.snd.snd.snd.snd.fst = (newW x.fst).snd.snd.snd.snd.snd.fst) ∧ Wr ((newW x.fst).snd.snd.snd.snd.snd.snd.fst = (newW x.fst).snd.snd.snd.snd.snd.snd.fst) ∧ Wr ((newW x.fst).fst.fst = (newW x.fst).fst.fst) ∧ Wr
  ((newW x.fst).fst.snd.fst = (newW x.fst).fst.snd.fst) ∧ Wr ((newW x.fst).fst.snd.snd.fst = (newW x.fst).fst.snd.snd.fst) ∧ Wr ((newW x.fst).fst.snd.snd.snd.fst = (newW x.fst).fst.snd.snd.snd.fst) ∧ Wr ((newW
  x.fst).snd.fst = (newW x.fst).snd.fst) ∧ Wr ((newW x.fst).snd.snd.fst = (newW x.fst).snd.snd.fst) ∧ Wr ((newW x.fst).snd.snd.snd.fst = (newW x.fst).snd.snd.snd.fst) ∧ Wr ((newW x.fst).snd.snd.snd.snd.fst = (newW
  x.fst).snd.snd.snd.snd.fst) ∧ Wr ((newW x.fst).snd.snd.snd.snd.snd.fst = (newW x.fst).snd.snd.snd.snd.snd.fst) ∧ Wr ((newW x.fst).snd.snd.snd.snd.snd.snd.fst = (newW x.fst).snd.snd.snd.snd.snd.snd.fst) ∧ Wr (x.fst.fst =
  x.fst.fst) ∧ Wr (x.fst.snd.fst = x.fst.snd.fst) ∧ Wr (x.fst.snd.snd.fst = x.fst.snd.snd.fst) ∧ Wr (x.fst.snd.snd.snd.fst = x.fst.snd.snd.snd.fst)) ∧ ∀ (x_2 : Int × Int), Wr (Gr2I x.fst.fst x_1.snd x_2.snd) → Wr ((0 :
  Int) ≤ x_1.snd) ∧ Wr (x_1.snd < (↑(List.length x.fst.fst) : Int)) ∧ Wr (Bool.true = Bool.true) ∧ Wr (Bool.true = Bool.true) ∧ bcase (Decidable.decide (x_2.snd < (↑(List.length (List.getD x.fst.fst (Int.toNat x_1.snd)
  (Ty.zero ZoneT)).snd.fst) : Int))) (Wr ((0 : Int) ≤ x_1.snd) ∧ Wr (x_1.snd < (↑(List.length x.fst.fst) : Int)) ∧ Wr (Bool.true = Bool.true) ∧ Wr (Bool.true = Bool.true) ∧ Wr ((0 : Int) ≤ x_2.snd) ∧ Wr (x_2.snd <
  (↑(List.length (List.getD x.fst.fst (Int.toNat x_1.snd) (Ty.zero ZoneT)).snd.fst) : Int)) ∧ Wr (Bool.true = Bool.true) ∧ Wr (Gr2I x.fst.fst x_1.snd (IntKind.wrap IntKind.i64 (x_2.snd + (1 : Int)))) ∧ Wr ((100 : Nat) -
  Int.toNat (IntKind.wrap IntKind.i64 (x_2.snd + (1 : Int))) < (100 : Nat) - Int.toNat x_2.snd) ∧ Wr (IntKind.wrap IntKind.i64 (x_2.fst + Min.min (↑(List.length (List.getD (List.getD x.fst.fst (Int.toNat x_1.snd) (Ty.zero
  ZoneT)).snd.fst (Int.toNat x_2.snd) (Ty.zero AdL))) : Int) (1000 : Int)) = IntKind.wrap IntKind.i64 (x_2.fst + Min.min (↑(List.length (List.getD (List.getD x.fst.fst (Int.toNat x_1.snd) (Ty.zero ZoneT)).snd.fst
  (Int.toNat x_2.snd) (Ty.zero AdL))) : Int) (1000 : Int))) ∧ Wr (IntKind.wrap IntKind.i64 (x_2.snd + (1 : Int)) = IntKind.wrap IntKind.i64 (x_2.snd + (1 : Int))) ∧ Wr (x_1.snd = x_1.snd) ∧ Wr (x.fst.fst = x.fst.fst) ∧ Wr
  (x.fst.snd.fst = x.fst.snd.fst) ∧ Wr (x.fst.snd.snd.fst = x.fst.snd.snd.fst) ∧ Wr (x.fst.snd.snd.snd.fst = x.fst.snd.snd.snd.fst) ∧ Wr ((newW x.fst).fst.fst = (newW x.fst).fst.fst) ∧ Wr ((newW x.fst).fst.snd.fst = (newW
  x.fst).fst.snd.fst) ∧ Wr ((newW x.fst).fst.snd.snd.fst = (newW x.fst).fst.snd.snd.fst) ∧ Wr ((newW x.fst).fst.snd.snd.snd.fst = (newW x.fst).fst.snd.snd.snd.fst) ∧ Wr ((newW x.fst).snd.fst = (newW x.fst).snd.fst) ∧ Wr
  ((newW x.fst).snd.snd.fst = (newW x.fst).snd.snd.fst) ∧ Wr ((newW x.fst).snd.snd.snd.fst = (newW x.fst).snd.snd.snd.fst) ∧ Wr ((newW x.fst).snd.snd.snd.snd.fst = (newW x.fst).snd.snd.snd.snd.fst) ∧ Wr ((newW
  x.fst).snd.snd.snd.snd.snd.fst = (newW x.fst).snd.snd.snd.snd.snd.fst) ∧ Wr ((newW x.fst).snd.snd.snd.snd.snd.snd.fst = (newW x.fst).snd.snd.snd.snd.snd.snd.fst) ∧ Wr ((newW x.fst).fst.fst = (newW x.fst).fst.fst) ∧ Wr
  ((newW x.fst).fst.snd.fst = (newW x.fst).fst.snd.fst) ∧ Wr ((newW x.fst).fst.snd.snd.fst = (newW x.fst).fst.snd.snd.fst) ∧ Wr ((newW x.fst).fst.snd.snd.snd.fst = (newW x.fst).fst.snd.snd.snd.fst) ∧ Wr ((newW
  x.fst).snd.fst = (newW x.fst).snd.fst) ∧ Wr ((newW x.fst).snd.snd.fst = (newW x.fst).snd.snd.fst) ∧ Wr ((newW x.fst).snd.snd.snd.fst = (newW x.fst).snd.snd.snd.fst) ∧ Wr ((newW x.fst).snd.snd.snd.snd.fst = (newW
  x.fst).snd.snd.snd.snd.fst) ∧ Wr ((newW x.fst).snd.snd.snd.snd.snd.fst = (newW x.fst).snd.snd.snd.snd.snd.fst) ∧ Wr ((newW x.fst).snd.snd.snd.snd.snd.snd.fst = (newW x.fst).snd.snd.snd.snd.snd.snd.fst) ∧ Wr (x.fst.fst =
  x.fst.fst) ∧ Wr (x.fst.snd.fst = x.fst.snd.fst) ∧ Wr (x.fst.snd.snd.fst = x.fst.snd.snd.fst) ∧ Wr (x.fst.snd.snd.snd.fst = x.fst.snd.snd.snd.fst)) (Wr ((0 : Int) ≤ IntKind.wrap IntKind.i64 (x_1.snd + (1 : Int))) ∧ Wr
  (List.length x.fst.fst - Int.toNat (IntKind.wrap IntKind.i64 (x_1.snd + (1 : Int))) < List.length x.fst.fst - Int.toNat x_1.snd) ∧ Wr (x_2.fst = x_2.fst) ∧ Wr (IntKind.wrap IntKind.i64 (x_1.snd + (1 : Int)) =
  IntKind.wrap IntKind.i64 (x_1.snd + (1 : Int))) ∧ Wr (x.fst.fst = x.fst.fst) ∧ Wr (x.fst.snd.fst = x.fst.snd.fst) ∧ Wr (x.fst.snd.snd.fst = x.fst.snd.snd.fst) ∧ Wr (x.fst.snd.snd.snd.fst = x.fst.snd.snd.snd.fst) ∧ Wr
  ((newW x.fst).fst.fst = (newW x.fst).fst.fst) ∧ Wr ((newW x.fst).fst.snd.fst = (newW x.fst).fst.snd.fst) ∧ Wr ((newW x.fst).fst.snd.snd.fst = (newW x.fst).fst.snd.snd.fst) ∧ Wr ((newW x.fst).fst.snd.snd.snd.fst = (newW
  x.fst).fst.snd.snd.snd.fst) ∧ Wr ((newW x.fst).snd.fst = (newW x.fst).snd.fst) ∧ Wr ((newW x.fst).snd.snd.fst = (newW x.fst).snd.snd.fst) ∧ Wr ((newW x.fst).snd.snd.snd.fst = (newW x.fst).snd.snd.snd.fst) ∧ Wr ((newW
  x.fst).snd.snd.snd.snd.fst = (newW x.fst).snd.snd.snd.snd.fst) ∧ Wr ((newW x.fst).snd.snd.snd.snd.snd.fst = (newW x.fst).snd.snd.snd.snd.snd.fst) ∧ Wr ((newW x.fst).snd.snd.snd.snd.snd.snd.fst = (newW
  x.fst).snd.snd.snd.snd.snd.snd.fst) ∧ Wr ((newW x.fst).fst.fst = (newW x.fst).fst.fst) ∧ Wr ((newW x.fst).fst.snd.fst = (newW x.fst).fst.snd.fst) ∧ Wr ((newW x.fst).fst.snd.snd.fst = (newW x.fst).fst.snd.snd.fst) ∧ Wr
  ((newW x.fst).fst.snd.snd.snd.fst = (newW x.fst).fst.snd.snd.snd.fst) ∧ Wr ((newW x.fst).snd.fst = (newW x.fst).snd.fst) ∧ Wr ((newW x.fst).snd.snd.fst = (newW x.fst).snd.snd.fst) ∧ Wr ((newW x.fst).snd.snd.snd.fst =
  (newW x.fst).snd.snd.snd.fst) ∧ Wr ((newW x.fst).snd.snd.snd.snd.fst = (newW x.fst).snd.snd.snd.snd.fst) ∧ Wr ((newW x.fst).snd.snd.snd.snd.snd.fst = (newW x.fst).snd.snd.snd.snd.snd.fst) ∧ Wr ((newW
  x.fst).snd.snd.snd.snd.snd.snd.fst = (newW x.fst).snd.snd.snd.snd.snd.snd.fst) ∧ Wr (x.fst.fst = x.fst.fst) ∧ Wr (x.fst.snd.fst = x.fst.snd.fst) ∧ Wr (x.fst.snd.snd.fst = x.fst.snd.snd.fst) ∧ Wr (x.fst.snd.snd.snd.fst =
  x.fst.snd.snd.snd.fst)))) ((Wr ((0 : Int) ≤ (0 : Int)) ∧ Wr (x_1.fst = x_1.fst) ∧ Wr ((0 : Int) = (0 : Int)) ∧ Wr (x.fst.fst = x.fst.fst) ∧ Wr (x.fst.snd.fst = x.fst.snd.fst) ∧ Wr (x.fst.snd.snd.fst = x.fst.snd.snd.fst)
  ∧ Wr (x.fst.snd.snd.snd.fst = x.fst.snd.snd.snd.fst) ∧ Wr ((newW x.fst).fst.fst = (newW x.fst).fst.fst) ∧ Wr ((newW x.fst).fst.snd.fst = (newW x.fst).fst.snd.fst) ∧ Wr ((newW x.fst).fst.snd.snd.fst = (newW
  x.fst).fst.snd.snd.fst) ∧ Wr ((newW x.fst).fst.snd.snd.snd.fst = (newW x.fst).fst.snd.snd.snd.fst) ∧ Wr ((newW x.fst).snd.fst = (newW x.fst).snd.fst) ∧ Wr ((newW x.fst).snd.snd.fst = (newW x.fst).snd.snd.fst) ∧ Wr
  ((newW x.fst).snd.snd.snd.fst = (newW x.fst).snd.snd.snd.fst) ∧ Wr ((newW x.fst).snd.snd.snd.snd.fst = (newW x.fst).snd.snd.snd.snd.fst) ∧ Wr ((newW x.fst).snd.snd.snd.snd.snd.fst = (newW x.fst).snd.snd.snd.snd.snd.fst)
  ∧ Wr ((newW x.fst).snd.snd.snd.snd.snd.snd.fst = (newW x.fst).snd.snd.snd.snd.snd.snd.fst) ∧ Wr ((newW x.fst).fst.fst = (newW x.fst).fst.fst) ∧ Wr ((newW x.fst).fst.snd.fst = (newW x.fst).fst.snd.fst) ∧ Wr ((newW
  x.fst).fst.snd.snd.fst = (newW x.fst).fst.snd.snd.fst) ∧ Wr ((newW x.fst).fst.snd.snd.snd.fst = (newW x.fst).fst.snd.snd.snd.fst) ∧ Wr ((newW x.fst).snd.fst = (newW x.fst).snd.fst) ∧ Wr ((newW x.fst).snd.snd.fst = (newW
  x.fst).snd.snd.fst) ∧ Wr ((newW x.fst).snd.snd.snd.fst = (newW x.fst).snd.snd.snd.fst) ∧ Wr ((newW x.fst).snd.snd.snd.snd.fst = (newW x.fst).snd.snd.snd.snd.fst) ∧ Wr ((newW x.fst).snd.snd.snd.snd.snd.fst = (newW
  x.fst).snd.snd.snd.snd.snd.fst) ∧ Wr ((newW x.fst).snd.snd.snd.snd.snd.snd.fst = (newW x.fst).snd.snd.snd.snd.snd.snd.fst) ∧ Wr (x.fst.fst = x.fst.fst) ∧ Wr (x.fst.snd.fst = x.fst.snd.fst) ∧ Wr (x.fst.snd.snd.fst =
  x.fst.snd.snd.fst) ∧ Wr (x.fst.snd.snd.snd.fst = x.fst.snd.snd.snd.fst)) ∧ ∀ (x_2 : Int × Int), Wr ((0 : Int) ≤ x_2.snd) → bcase (Decidable.decide (x_2.snd < (↑(List.length x.fst.snd.fst) : Int)) && Decidable.decide
  (x_2.snd ≤ (100 : Int))) (Wr ((0 : Int) ≤ x_2.snd) ∧ Wr (x_2.snd < (↑(List.length x.fst.snd.fst) : Int)) ∧ Wr (Bool.true = Bool.true) ∧ Wr (Bool.true = Bool.true) ∧ Wr ((0 : Int) ≤ IntKind.wrap IntKind.i64 (x_2.snd + (1
  : Int))) ∧ Wr (List.length x.fst.snd.fst - Int.toNat (IntKind.wrap IntKind.i64 (x_2.snd + (1 : Int))) < List.length x.fst.snd.fst - Int.toNat x_2.snd) ∧ Wr (IntKind.wrap IntKind.i64 (x_2.fst + Min.min (↑(List.length
  (List.getD x.fst.snd.fst (Int.toNat x_2.snd) (Ty.zero FatT)).snd.fst) : Int) (1000 : Int)) = IntKind.wrap IntKind.i64 (x_2.fst + Min.min (↑(List.length (List.getD x.fst.snd.fst (Int.toNat x_2.snd) (Ty.zero
  FatT)).snd.fst) : Int) (1000 : Int))) ∧ Wr (IntKind.wrap IntKind.i64 (x_2.snd + (1 : Int)) = IntKind.wrap IntKind.i64 (x_2.snd + (1 : Int))) ∧ Wr (x.fst.fst = x.fst.fst) ∧ Wr (x.fst.snd.fst = x.fst.snd.fst) ∧ Wr
  (x.fst.snd.snd.fst = x.fst.snd.snd.fst) ∧ Wr (x.fst.snd.snd.snd.fst = x.fst.snd.snd.snd.fst) ∧ Wr ((newW x.fst).fst.fst = (newW x.fst).fst.fst) ∧ Wr ((newW x.fst).fst.snd.fst = (newW x.fst).fst.snd.fst) ∧ Wr ((newW
  x.fst).fst.snd.snd.fst = (newW x.fst).fst.snd.snd.fst) ∧ Wr ((newW x.fst).fst.snd.snd.snd.fst = (newW x.fst).fst.snd.snd.snd.fst) ∧ Wr ((newW x.fst).snd.fst = (newW x.fst).snd.fst) ∧ Wr ((newW x.fst).snd.snd.fst = (newW
  x.fst).snd.snd.fst) ∧ Wr ((newW x.fst).snd.snd.snd.fst = (newW x.fst).snd.snd.snd.fst) ∧ Wr ((newW x.fst).snd.snd.snd.snd.fst = (newW x.fst).snd.snd.snd.snd.fst) ∧ Wr ((newW x.fst).snd.snd.snd.snd.snd.fst = (newW
  x.fst).snd.snd.snd.snd.snd.fst) ∧ Wr ((newW x.fst).snd.snd.snd.snd.snd.snd.fst = (newW x.fst).snd.snd.snd.snd.snd.snd.fst) ∧ Wr ((newW x.fst).fst.fst = (newW x.fst).fst.fst) ∧ Wr ((newW x.fst).fst.snd.fst = (newW
  x.fst).fst.snd.fst) ∧ Wr ((newW x.fst).fst.snd.snd.fst = (newW x.fst).fst.snd.snd.fst) ∧ Wr ((newW x.fst).fst.snd.snd.snd.fst = (newW x.fst).fst.snd.snd.snd.fst) ∧ Wr ((newW x.fst).snd.fst = (newW x.fst).snd.fst) ∧ Wr
  ((newW x.fst).snd.snd.fst = (newW x.fst).snd.snd.fst) ∧ Wr ((newW x.fst).snd.snd.snd.fst = (newW x.fst).snd.snd.snd.fst) ∧ Wr ((newW x.fst).snd.snd.snd.snd.fst = (newW x.fst).snd.snd.snd.snd.fst) ∧ Wr ((newW
  x.fst).snd.snd.snd.snd.snd.fst = (newW x.fst).snd.snd.snd.snd.snd.fst) ∧ Wr ((newW x.fst).snd.snd.snd.snd.snd.snd.fst = (newW x.fst).snd.snd.snd.snd.snd.snd.fst) ∧ Wr (x.fst.fst = x.fst.fst) ∧ Wr (x.fst.snd.fst =
  x.fst.snd.fst) ∧ Wr (x.fst.snd.snd.fst = x.fst.snd.snd.fst) ∧ Wr (x.fst.snd.snd.snd.fst = x.fst.snd.snd.snd.fst)) (bcase (Decidable.decide ((↑(List.length x.fst.fst) : Int) > (40 : Int)) || Decidable.decide
  ((↑(List.length x.fst.snd.fst) : Int) > (100 : Int)) || Decidable.decide (x_2.fst > (3000 : Int)) || !Decidable.decide (check x.fst = (0 : Int)) || Decidable.decide ((↑(List.length x.snd.snd.fst) : Int) > (40 : Int)) ||
  Decidable.decide ((↑(ByteArray.size x.snd.fst) : Int) > (200 : Int))) (Wr True ∧ (Bool.true, ()) = (Bool.true, ())) ((Wr (AsI x.fst x.snd.fst x.snd.snd.fst (0 : Int) (newW x.fst)) ∧ Wr ((0 : Int) = (0 : Int)) ∧ Wr
  (x.snd.fst = x.snd.fst) ∧ Wr (x.snd.snd.fst = x.snd.snd.fst) ∧ Wr (Bool.false = Bool.false) ∧ Wr ((newW x.fst).fst.fst = (newW x.fst).fst.fst) ∧ Wr ((newW x.fst).fst.snd.fst = (newW x.fst).fst.snd.fst) ∧ Wr ((newW
  x.fst).fst.snd.snd.fst = (newW x.fst).fst.snd.snd.fst) ∧ Wr ((newW x.fst).fst.snd.snd.snd.fst = (newW x.fst).fst.snd.snd.snd.fst) ∧ Wr ((newW x.fst).snd.fst = (newW x.fst).snd.fst) ∧ Wr ((newW x.fst).snd.snd.fst = (newW
  x.fst).snd.snd.fst) ∧ Wr ((newW x.fst).snd.snd.snd.fst = (newW x.fst).snd.snd.snd.fst) ∧ Wr ((newW x.fst).snd.snd.snd.snd.fst = (newW x.fst).snd.snd.snd.snd.fst) ∧ Wr ((newW x.fst).snd.snd.snd.snd.snd.fst = (newW
  x.fst).snd.snd.snd.snd.snd.fst) ∧ Wr ((newW x.fst).snd.snd.snd.snd.snd.snd.fst = (newW x.fst).snd.snd.snd.snd.snd.snd.fst) ∧ Wr (x.fst.fst = x.fst.fst) ∧ Wr (x.fst.snd.fst = x.fst.snd.fst) ∧ Wr (x.fst.snd.snd.fst =
  x.fst.snd.snd.fst) ∧ Wr (x.fst.snd.snd.snd.fst = x.fst.snd.snd.snd.fst)) ∧ ∀ (x_3 : Int × (List (ByteArray × List (List (Int × (Int × Int × Int × Int × Int × Int × Int × Int × Unit) × Int × Unit)) × Unit) × List ((Int ×
  (Int × Int × Int × Int × Int × Int × Int × Int × Unit) × Int × Unit) × List Int × Unit) × Int × List Int × Unit) × Int × List ((Int × (Int × Int × Int × Int × Int × Int × Int × Int × Unit) × Int × Unit) × Int × Int ×
  Int × Bool × Unit) × List (Int × (Int × (Int × Int × Int × Int × Int × Int × Int × Int × Unit) × Int × Unit) × Int × Bool × Bool × Unit) × List (Int × ByteArray × Int × Bool × Unit) × Int × List (Bool × Int × Int ×
  Unit) × Unit), Wr (AsI x.fst x.snd.fst x.snd.snd.fst x_3.fst x_3.snd) → bcase (Decidable.decide (x_3.fst < (↑(List.length x.snd.snd.fst) : Int))) (Wr (okK x_3.snd = Bool.true) ∧ Wr ((!!Decidable.decide (askE x_3.snd
  (IntKind.wrap IntKind.i64 ((100 : Int) + x_3.fst)) = (0 : Int))) = Bool.true → okK (askW x_3.snd (IntKind.wrap IntKind.i64 ((100 : Int) + x_3.fst)) x.snd.fst) = Bool.true) ∧ bcase (!Decidable.decide (askE x_3.snd
  (IntKind.wrap IntKind.i64 ((100 : Int) + x_3.fst)) = (0 : Int)) || !askedW (askW x_3.snd (IntKind.wrap IntKind.i64 ((100 : Int) + x_3.fst)) x.snd.fst) (IntKind.wrap IntKind.i64 ((100 : Int) + x_3.fst))) ((Bool.false,
  ()) = (Bool.true, ())) (Wr (AsI x.fst x.snd.fst x.snd.snd.fst (IntKind.wrap IntKind.i64 (x_3.fst + (1 : Int))) (askW x_3.snd (IntKind.wrap IntKind.i64 ((100 : Int) + x_3.fst)) x.snd.fst)) ∧ Wr (List.length x.snd.snd.fst
  - Int.toNat (IntKind.wrap IntKind.i64 (x_3.fst + (1 : Int))) < List.length x.snd.snd.fst - Int.toNat x_3.fst) ∧ Wr (IntKind.wrap IntKind.i64 (x_3.fst + (1 : Int)) = IntKind.wrap IntKind.i64 (x_3.fst + (1 : Int))) ∧ Wr
  (x.snd.fst = x.snd.fst) ∧ Wr (x.snd.snd.fst = x.snd.snd.fst) ∧ Wr (Bool.false = Bool.false) ∧ Wr ((askW x_3.snd (IntKind.wrap IntKind.i64 ((100 : Int) + x_3.fst)) x.snd.fst).fst.fst = (askW x_3.snd (IntKind.wrap
  IntKind.i64 ((100 : Int) + x_3.fst)) x.snd.fst).fst.fst) ∧ Wr ((askW x_3.snd (IntKind.wrap IntKind.i64 ((100 : Int) + x_3.fst)) x.snd.fst).fst.snd.fst = (askW x_3.snd (IntKind.wrap IntKind.i64 ((100 : Int) + x_3.fst))
  x.snd.fst).fst.snd.fst) ∧ Wr ((askW x_3.snd (IntKind.wrap IntKind.i64 ((100 : Int) + x_3.fst)) x.snd.fst).fst.snd.snd.fst = (askW x_3.snd (IntKind.wrap IntKind.i64 ((100 : Int) + x_3.fst)) x.snd.fst).fst.snd.snd.fst) ∧
  Wr ((askW x_3.snd (IntKind.wrap IntKind.i64 ((100 : Int) + x_3.fst)) x.snd.fst).fst.snd.snd.snd.fst = (askW x_3.snd (IntKind.wrap IntKind.i64 ((100 : Int) + x_3.fst)) x.snd.fst).fst.snd.snd.snd.fst) ∧ Wr ((askW x_3.snd
  (IntKind.wrap IntKind.i64 ((100 : Int) + x_3.fst)) x.snd.fst).snd.fst = (askW x_3.snd (IntKind.wrap IntKind.i64 ((100 : Int) + x_3.fst)) x.snd.fst).snd.fst) ∧ Wr ((askW x_3.snd (IntKind.wrap IntKind.i64 ((100 : Int) +
  x_3.fst)) x.snd.fst).snd.snd.fst = (askW x_3.snd (IntKind.wrap IntKind.i64 ((100 : Int) + x_3.fst)) x.snd.fst).snd.snd.fst) ∧ Wr ((askW x_3.snd (IntKind.wrap IntKind.i64 ((100 : Int) + x_3.fst))
  x.snd.fst).snd.snd.snd.fst = (askW x_3.snd (IntKind.wrap IntKind.i64 ((100 : Int) + x_3.fst)) x.snd.fst).snd.snd.snd.fst) ∧ Wr ((askW x_3.snd (IntKind.wrap IntKind.i64 ((100 : Int) + x_3.fst))
  x.snd.fst).snd.snd.snd.snd.fst = (askW x_3.snd (IntKind.wrap IntKind.i64 ((100 : Int) + x_3.fst)) x.snd.fst).snd.snd.snd.snd.fst) ∧ Wr ((askW x_3.snd (IntKind.wrap IntKind.i64 ((100 : Int) + x_3.fst))
  x.snd.fst).snd.snd.snd.snd.snd.fst = (askW x_3.snd (IntKind.wrap IntKind.i64 ((100 : Int) + x_3.fst)) x.snd.fst).snd.snd.snd.snd.snd.fst) ∧ Wr ((askW x_3.snd (IntKind.wrap IntKind.i64 ((100 : Int) + x_3.fst))
  x.snd.fst).snd.snd.snd.snd.snd.snd.fst = (askW x_3.snd (IntKind.wrap IntKind.i64 ((100 : Int) + x_3.fst)) x.snd.fst).snd.snd.snd.snd.snd.snd.fst) ∧ Wr (x.fst.fst = x.fst.fst) ∧ Wr (x.fst.snd.fst = x.fst.snd.fst) ∧ Wr
  (x.fst.snd.snd.fst = x.fst.snd.snd.fst) ∧ Wr (x.fst.snd.snd.snd.fst = x.fst.snd.snd.snd.fst))) ((Wr (AnI x.fst x.snd.fst x.snd.snd.fst (0 : Int) x_3.snd) ∧ Wr ((0 : Int) = (0 : Int)) ∧ Wr (x.snd.fst = x.snd.fst) ∧ Wr
  (x.snd.snd.fst = x.snd.snd.fst) ∧ Wr (Bool.false = Bool.false) ∧ Wr (x_3.snd.fst.fst = x_3.snd.fst.fst) ∧ Wr (x_3.snd.fst.snd.fst = x_3.snd.fst.snd.fst) ∧ Wr (x_3.snd.fst.snd.snd.fst = x_3.snd.fst.snd.snd.fst) ∧ Wr
  (x_3.snd.fst.snd.snd.snd.fst = x_3.snd.fst.snd.snd.snd.fst) ∧ Wr (x_3.snd.snd.fst = x_3.snd.snd.fst) ∧ Wr (x_3.snd.snd.snd.fst = x_3.snd.snd.snd.fst) ∧ Wr (x_3.snd.snd.snd.snd.fst = x_3.snd.snd.snd.snd.fst) ∧ Wr
  (x_3.snd.snd.snd.snd.snd.fst = x_3.snd.snd.snd.snd.snd.fst) ∧ Wr (x_3.snd.snd.snd.snd.snd.snd.fst = x_3.snd.snd.snd.snd.snd.snd.fst) ∧ Wr (x_3.snd.snd.snd.snd.snd.snd.snd.fst = x_3.snd.snd.snd.snd.snd.snd.snd.fst) ∧ Wr
  (x.fst.fst = x.fst.fst) ∧ Wr (x.fst.snd.fst = x.fst.snd.fst) ∧ Wr (x.fst.snd.snd.fst = x.fst.snd.snd.fst) ∧ Wr (x.fst.snd.snd.snd.fst = x.fst.snd.snd.snd.fst)) ∧ ∀ (x_4 : Int × (List (ByteArray × List (List (Int × (Int
  × Int × Int × Int × Int × Int × Int × Int × Unit) × Int × Unit)) × Unit) × List ((Int × (Int × Int × Int × Int × Int × Int × Int × Int × Unit) × Int × Unit) × List Int × Unit) × Int × List Int × Unit) × Int × List ((Int
  × (Int × Int × Int × Int × Int × Int × Int × Int × Unit) × Int × Unit) × Int × Int × Int × Bool × Unit) × List (Int × (Int × (Int × Int × Int × Int × Int × Int × Int × Int × Unit) × Int × Unit) × Int × Bool × Bool ×
  Unit) × List (Int × ByteArray × Int × Bool × Unit) × Int × List (Bool × Int × Int × Unit) × Unit), Wr (AnI x.fst x.snd.fst x.snd.snd.fst x_4.fst x_4.snd) → bcase (Decidable.decide (x_4.fst < (↑(List.length
  x.snd.snd.fst) : Int))) (Wr ((0 : Int) ≤ x_4.fst) ∧ Wr (x_4.fst < (↑(List.length x.snd.snd.fst) : Int)) ∧ Wr (Bool.true = Bool.true) ∧ Wr ((↑(List.length x.snd.snd.fst) : Int) ≠ (0 : Int)) ∧ Wr ((↑(List.length
  x.snd.snd.fst) : Int) ≠ (0 : Int)) ∧ Wr (okK x_4.snd = Bool.true) ∧ Wr ((okK x_4.snd && checkB x_4.snd.fst) = Bool.true) ∧ bcase (!askedW x_4.snd (IntKind.wrap IntKind.i64 ((100 : Int) + Int.tmod (IntKind.wrap
  IntKind.i64 (Int.tmod (List.getD x.snd.snd.fst (Int.toNat x_4.fst) (0 : Int)) (↑(List.length x.snd.snd.fst) : Int) + (↑(List.length x.snd.snd.fst) : Int))) (↑(List.length x.snd.snd.fst) : Int))) == Decidable.decide
  (ansErr x_4.snd (IntKind.wrap IntKind.i64 ((100 : Int) + Int.tmod (IntKind.wrap IntKind.i64 (Int.tmod (List.getD x.snd.snd.fst (Int.toNat x_4.fst) (0 : Int)) (↑(List.length x.snd.snd.fst) : Int) + (↑(List.length
  x.snd.snd.fst) : Int))) (↑(List.length x.snd.snd.fst) : Int))) = (0 : Int))) ((Bool.false, ()) = (Bool.true, ())) (bcase (!askedW x_4.snd (IntKind.wrap IntKind.i64 ((100 : Int) + Int.tmod (IntKind.wrap IntKind.i64
  (Int.tmod (List.getD x.snd.snd.fst (Int.toNat x_4.fst) (0 : Int)) (↑(List.length x.snd.snd.fst) : Int) + (↑(List.length x.snd.snd.fst) : Int))) (↑(List.length x.snd.snd.fst) : Int)))) (Wr (AnI x.fst x.snd.fst
  x.snd.snd.fst (IntKind.wrap IntKind.i64 (x_4.fst + (1 : Int))) x_4.snd) ∧ Wr (List.length x.snd.snd.fst - Int.toNat (IntKind.wrap IntKind.i64 (x_4.fst + (1 : Int))) < List.length x.snd.snd.fst - Int.toNat x_4.fst) ∧ Wr
  (IntKind.wrap IntKind.i64 (x_4.fst + (1 : Int)) = IntKind.wrap IntKind.i64 (x_4.fst + (1 : Int))) ∧ Wr (x.snd.fst = x.snd.fst) ∧ Wr (x.snd.snd.fst = x.snd.snd.fst) ∧ Wr (Bool.false = Bool.false) ∧ Wr (x_4.snd.fst.fst =
  x_4.snd.fst.fst) ∧ Wr (x_4.snd.fst.snd.fst = x_4.snd.fst.snd.fst) ∧ Wr (x_4.snd.fst.snd.snd.fst = x_4.snd.fst.snd.snd.fst) ∧ Wr (x_4.snd.fst.snd.snd.snd.fst = x_4.snd.fst.snd.snd.snd.fst) ∧ Wr (x_4.snd.snd.fst =
  x_4.snd.snd.fst) ∧ Wr (x_4.snd.snd.snd.fst = x_4.snd.snd.snd.fst) ∧ Wr (x_4.snd.snd.snd.snd.fst = x_4.snd.snd.snd.snd.fst) ∧ Wr (x_4.snd.snd.snd.snd.snd.fst = x_4.snd.snd.snd.snd.snd.fst) ∧ Wr
  (x_4.snd.snd.snd.snd.snd.snd.fst = x_4.snd.snd.snd.snd.snd.snd.fst) ∧ Wr (x_4.snd.snd.snd.snd.snd.snd.snd.fst = x_4.snd.snd.snd.snd.snd.snd.snd.fst) ∧ Wr (x.fst.fst = x.fst.fst) ∧ Wr (x.fst.snd.fst = x.fst.snd.fst) ∧ Wr
  (x.fst.snd.snd.fst = x.fst.snd.snd.fst) ∧ Wr (x.fst.snd.snd.snd.fst = x.fst.snd.snd.snd.fst)) (Wr (checkB x.fst = Bool.true) ∧ Wr (lenA (ansR x.fst x.snd.fst (Int.tmod (IntKind.wrap IntKind.i64 (Int.tmod (List.getD
  x.snd.snd.fst (Int.toNat x_4.fst) (0 : Int)) (↑(List.length x.snd.snd.fst) : Int) + (↑(List.length x.snd.snd.fst) : Int))) (↑(List.length x.snd.snd.fst) : Int))) = Bool.true) ∧ Wr ((!(!Decidable.decide ((ansM x_4.snd
  (IntKind.wrap IntKind.i64 ((100 : Int) + Int.tmod (IntKind.wrap IntKind.i64 (Int.tmod (List.getD x.snd.snd.fst (Int.toNat x_4.fst) (0 : Int)) (↑(List.length x.snd.snd.fst) : Int) + (↑(List.length x.snd.snd.fst) : Int)))
  (↑(List.length x.snd.snd.fst) : Int)))).fst = (7 : Int)) || !Decidable.decide ((ansM x_4.snd (IntKind.wrap IntKind.i64 ((100 : Int) + Int.tmod (IntKind.wrap IntKind.i64 (Int.tmod (List.getD x.snd.snd.fst (Int.toNat
  x_4.fst) (0 : Int)) (↑(List.length x.snd.snd.fst) : Int) + (↑(List.length x.snd.snd.fst) : Int))) (↑(List.length x.snd.snd.fst) : Int)))).snd.snd.snd.snd.snd.fst = (0 : Int)) == Decidable.decide (ansE x.fst x.snd.fst
  (Int.tmod (IntKind.wrap IntKind.i64 (Int.tmod (List.getD x.snd.snd.fst (Int.toNat x_4.fst) (0 : Int)) (↑(List.length x.snd.snd.fst) : Int) + (↑(List.length x.snd.snd.fst) : Int))) (↑(List.length x.snd.snd.fst) : Int)) =
  (0 : Int)) || !Decidable.decide ((ansM x_4.snd (IntKind.wrap IntKind.i64 ((100 : Int) + Int.tmod (IntKind.wrap IntKind.i64 (Int.tmod (List.getD x.snd.snd.fst (Int.toNat x_4.fst) (0 : Int)) (↑(List.length x.snd.snd.fst)
  : Int) + (↑(List.length x.snd.snd.fst) : Int))) (↑(List.length x.snd.snd.fst) : Int)))).snd.snd.snd.snd.fst = Go.Ad.row1 (ansR x.fst x.snd.fst (Int.tmod (IntKind.wrap IntKind.i64 (Int.tmod (List.getD x.snd.snd.fst
  (Int.toNat x_4.fst) (0 : Int)) (↑(List.length x.snd.snd.fst) : Int) + (↑(List.length x.snd.snd.fst) : Int))) (↑(List.length x.snd.snd.fst) : Int)))))) = Bool.true → okK (ansW x_4.snd (IntKind.wrap IntKind.i64 ((100 :
  Int) + Int.tmod (IntKind.wrap IntKind.i64 (Int.tmod (List.getD x.snd.snd.fst (Int.toNat x_4.fst) (0 : Int)) (↑(List.length x.snd.snd.fst) : Int) + (↑(List.length x.snd.snd.fst) : Int))) (↑(List.length x.snd.snd.fst) :
  Int)))) = Bool.true) ∧ bcase (!Decidable.decide ((ansM x_4.snd (IntKind.wrap IntKind.i64 ((100 : Int) + Int.tmod (IntKind.wrap IntKind.i64 (Int.tmod (List.getD x.snd.snd.fst (Int.toNat x_4.fst) (0 : Int)) (↑(List.length
  x.snd.snd.fst) : Int) + (↑(List.length x.snd.snd.fst) : Int))) (↑(List.length x.snd.snd.fst) : Int)))).fst = (7 : Int)) || !Decidable.decide ((ansM x_4.snd (IntKind.wrap IntKind.i64 ((100 : Int) + Int.tmod (IntKind.wrap
  IntKind.i64 (Int.tmod (List.getD x.snd.snd.fst (Int.toNat x_4.fst) (0 : Int)) (↑(List.length x.snd.snd.fst) : Int) + (↑(List.length x.snd.snd.fst) : Int))) (↑(List.length x.snd.snd.fst) : Int)))).snd.snd.snd.snd.snd.fst
  = (0 : Int)) == Decidable.decide (ansE x.fst x.snd.fst (Int.tmod (IntKind.wrap IntKind.i64 (Int.tmod (List.getD x.snd.snd.fst (Int.toNat x_4.fst) (0 : Int)) (↑(List.length x.snd.snd.fst) : Int) + (↑(List.length
  x.snd.snd.fst) : Int))) (↑(List.length x.snd.snd.fst) : Int)) = (0 : Int)) || !Decidable.decide ((ansM x_4.snd (IntKind.wrap IntKind.i64 ((100 : Int) + Int.tmod (IntKind.wrap IntKind.i64 (Int.tmod (List.getD
  x.snd.snd.fst (Int.toNat x_4.fst) (0 : Int)) (↑(List.length x.snd.snd.fst) : Int) + (↑(List.length x.snd.snd.fst) : Int))) (↑(List.length x.snd.snd.fst) : Int)))).snd.snd.snd.snd.fst = Go.Ad.row1 (ansR x.fst x.snd.fst
  (Int.tmod (IntKind.wrap IntKind.i64 (Int.tmod (List.getD x.snd.snd.fst (Int.toNat x_4.fst) (0 : Int)) (↑(List.length x.snd.snd.fst) : Int) + (↑(List.length x.snd.snd.fst) : Int))) (↑(List.length x.snd.snd.fst) : Int))))
  || askedW (ansW x_4.snd (IntKind.wrap IntKind.i64 ((100 : Int) + Int.tmod (IntKind.wrap IntKind.i64 (Int.tmod (List.getD x.snd.snd.fst (Int.toNat x_4.fst) (0 : Int)) (↑(List.length x.snd.snd.fst) : Int) + (↑(List.length
  x.snd.snd.fst) : Int))) (↑(List.length x.snd.snd.fst) : Int)))) (IntKind.wrap IntKind.i64 ((100 : Int) + Int.tmod (IntKind.wrap IntKind.i64 (Int.tmod (List.getD x.snd.snd.fst (Int.toNat x_4.fst) (0 : Int))
  (↑(List.length x.snd.snd.fst) : Int) + (↑(List.length x.snd.snd.fst) : Int))) (↑(List.length x.snd.snd.fst) : Int)))) ((Bool.false, ()) = (Bool.true, ())) (Wr (AnI x.fst x.snd.fst x.snd.snd.fst (IntKind.wrap IntKind.i64
  (x_4.fst + (1 : Int))) (ansW x_4.snd (IntKind.wrap IntKind.i64 ((100 : Int) + Int.tmod (IntKind.wrap IntKind.i64 (Int.tmod (List.getD x.snd.snd.fst (Int.toNat x_4.fst) (0 : Int)) (↑(List.length x.snd.snd.fst) : Int) +
  (↑(List.length x.snd.snd.fst) : Int))) (↑(List.length x.snd.snd.fst) : Int))))) ∧ Wr (List.length x.snd.snd.fst - Int.toNat (IntKind.wrap IntKind.i64 (x_4.fst + (1 : Int))) < List.length x.snd.snd.fst - Int.toNat
  x_4.fst) ∧ Wr (IntKind.wrap IntKind.i64 (x_4.fst + (1 : Int)) = IntKind.wrap IntKind.i64 (x_4.fst + (1 : Int))) ∧ Wr (x.snd.fst = x.snd.fst) ∧ Wr (x.snd.snd.fst = x.snd.snd.fst) ∧ Wr (Bool.false = Bool.false) ∧ Wr
  ((ansW x_4.snd (IntKind.wrap IntKind.i64 ((100 : Int) + Int.tmod (IntKind.wrap IntKind.i64 (Int.tmod (List.getD x.snd.snd.fst (Int.toNat x_4.fst) (0 : Int)) (↑(List.length x.snd.snd.fst) : Int) + (↑(List.length
  x.snd.snd.fst) : Int))) (↑(List.length x.snd.snd.fst) : Int)))).fst.fst = (ansW x_4.snd (IntKind.wrap IntKind.i64 ((100 : Int) + Int.tmod (IntKind.wrap IntKind.i64 (Int.tmod (List.getD x.snd.snd.fst (Int.toNat x_4.fst)
  (0 : Int)) (↑(List.length x.snd.snd.fst) : Int) + (↑(List.length x.snd.snd.fst) : Int))) (↑(List.length x.snd.snd.fst) : Int)))).fst.fst) ∧ Wr ((ansW x_4.snd (IntKind.wrap IntKind.i64 ((100 : Int) + Int.tmod
  (IntKind.wrap IntKind.i64 (Int.tmod (List.getD x.snd.snd.fst (Int.toNat x_4.fst) (0 : Int)) (↑(List.length x.snd.snd.fst) : Int) + (↑(List.length x.snd.snd.fst) : Int))) (↑(List.length x.snd.snd.fst) :
  Int)))).fst.snd.fst = (ansW x_4.snd (IntKind.wrap IntKind.i64 ((100 : Int) + Int.tmod (IntKind.wrap IntKind.i64 (Int.tmod (List.getD x.snd.snd.fst (Int.toNat x_4.fst) (0 : Int)) (↑(List.length x.snd.snd.fst) : Int) +
  (↑(List.length x.snd.snd.fst) : Int))) (↑(List.length x.snd.snd.fst) : Int)))).fst.snd.fst) ∧ Wr ((ansW x_4.snd (IntKind.wrap IntKind.i64 ((100 : Int) + Int.tmod (IntKind.wrap IntKind.i64 (Int.tmod (List.getD
  x.snd.snd.fst (Int.toNat x_4.fst) (0 : Int)) (↑(List.length x.snd.snd.fst) : Int) + (↑(List.length x.snd.snd.fst) : Int))) (↑(List.length x.snd.snd.fst) : Int)))).fst.snd.snd.fst = (ansW x_4.snd (IntKind.wrap
  IntKind.i64 ((100 : Int) + Int.tmod (IntKind.wrap IntKind.i64 (Int.tmod (List.getD x.snd.snd.fst (Int.toNat x_4.fst) (0 : Int)) (↑(List.length x.snd.snd.fst) : Int) + (↑(List.length x.snd.snd.fst) : Int)))
  (↑(List.length x.snd.snd.fst) : Int)))).fst.snd.snd.fst) ∧ Wr ((ansW x_4.snd (IntKind.wrap IntKind.i64 ((100 : Int) + Int.tmod (IntKind.wrap IntKind.i64 (Int.tmod (List.getD x.snd.snd.fst (Int.toNat x_4.fst) (0 : Int))
  (↑(List.length x.snd.snd.fst) : Int) + (↑(List.length x.snd.snd.fst) : Int))) (↑(List.length x.snd.snd.fst) : Int)))).fst.snd.snd.snd.fst = (ansW x_4.snd (IntKind.wrap IntKind.i64 ((100 : Int) + Int.tmod (IntKind.wrap
  IntKind.i64 (Int.tmod (List.getD x.snd.snd.fst (Int.toNat x_4.fst) (0 : Int)) (↑(List.length x.snd.snd.fst) : Int) + (↑(List.length x.snd.snd.fst) : Int))) (↑(List.length x.snd.snd.fst) : Int)))).fst.snd.snd.snd.fst) ∧
  Wr ((ansW x_4.snd (IntKind.wrap IntKind.i64 ((100 : Int) + Int.tmod (IntKind.wrap IntKind.i64 (Int.tmod (List.getD x.snd.snd.fst (Int.toNat x_4.fst) (0 : Int)) (↑(List.length x.snd.snd.fst) : Int) + (↑(List.length
  x.snd.snd.fst) : Int))) (↑(List.length x.snd.snd.fst) : Int)))).snd.fst = (ansW x_4.snd (IntKind.wrap IntKind.i64 ((100 : Int) + Int.tmod (IntKind.wrap IntKind.i64 (Int.tmod (List.getD x.snd.snd.fst (Int.toNat x_4.fst)
  (0 : Int)) (↑(List.length x.snd.snd.fst) : Int) + (↑(List.length x.snd.snd.fst) : Int))) (↑(List.length x.snd.snd.fst) : Int)))).snd.fst) ∧ Wr ((ansW x_4.snd (IntKind.wrap IntKind.i64 ((100 : Int) + Int.tmod
  (IntKind.wrap IntKind.i64 (Int.tmod (List.getD x.snd.snd.fst (Int.toNat x_4.fst) (0 : Int)) (↑(List.length x.snd.snd.fst) : Int) + (↑(List.length x.snd.snd.fst) : Int))) (↑(List.length x.snd.snd.fst) :
  Int)))).snd.snd.fst = (ansW x_4.snd (IntKind.wrap IntKind.i64 ((100 : Int) + Int.tmod (IntKind.wrap IntKind.i64 (Int.tmod (List.getD x.snd.snd.fst (Int.toNat x_4.fst) (0 : Int)) (↑(List.length x.snd.snd.fst) : Int) +
  (↑(List.length x.snd.snd.fst) : Int))) (↑(List.length x.snd.snd.fst) : Int)))).snd.snd.fst) ∧ Wr ((ansW x_4.snd (IntKind.wrap IntKind.i64 ((100 : Int) + Int.tmod (IntKind.wrap IntKind.i64 (Int.tmod (List.getD
  x.snd.snd.fst (Int.toNat x_4.fst) (0 : Int)) (↑(List.length x.snd.snd.fst) : Int) + (↑(List.length x.snd.snd.fst) : Int))) (↑(List.length x.snd.snd.fst) : Int)))).snd.snd.snd.fst = (ansW x_4.snd (IntKind.wrap
  IntKind.i64 ((100 : Int) + Int.tmod (IntKind.wrap IntKind.i64 (Int.tmod (List.getD x.snd.snd.fst (Int.toNat x_4.fst) (0 : Int)) (↑(List.length x.snd.snd.fst) : Int) + (↑(List.length x.snd.snd.fst) : Int)))
  (↑(List.length x.snd.snd.fst) : Int)))).snd.snd.snd.fst) ∧ Wr ((ansW x_4.snd (IntKind.wrap IntKind.i64 ((100 : Int) + Int.tmod (IntKind.wrap IntKind.i64 (Int.tmod (List.getD x.snd.snd.fst (Int.toNat x_4.fst) (0 : Int))
  (↑(List.length x.snd.snd.fst) : Int) + (↑(List.length x.snd.snd.fst) : Int))) (↑(List.length x.snd.snd.fst) : Int)))).snd.snd.snd.snd.fst = (ansW x_4.snd (IntKind.wrap IntKind.i64 ((100 : Int) + Int.tmod (IntKind.wrap
  IntKind.i64 (Int.tmod (List.getD x.snd.snd.fst (Int.toNat x_4.fst) (0 : Int)) (↑(List.length x.snd.snd.fst) : Int) + (↑(List.length x.snd.snd.fst) : Int))) (↑(List.length x.snd.snd.fst) : Int)))).snd.snd.snd.snd.fst) ∧
  Wr ((ansW x_4.snd (IntKind.wrap IntKind.i64 ((100 : Int) + Int.tmod (IntKind.wrap IntKind.i64 (Int.tmod (List.getD x.snd.snd.fst (Int.toNat x_4.fst) (0 : Int)) (↑(List.length x.snd.snd.fst) : Int) + (↑(List.length
  x.snd.snd.fst) : Int))) (↑(List.length x.snd.snd.fst) : Int)))).snd.snd.snd.snd.snd.fst = (ansW x_4.snd (IntKind.wrap IntKind.i64 ((100 : Int) + Int.tmod (IntKind.wrap IntKind.i64 (Int.tmod (List.getD x.snd.snd.fst
  (Int.toNat x_4.fst) (0 : Int)) (↑(List.length x.snd.snd.fst) : Int) + (↑(List.length x.snd.snd.fst) : Int))) (↑(List.length x.snd.snd.fst) : Int)))).snd.snd.snd.snd.snd.fst) ∧ Wr ((ansW x_4.snd (IntKind.wrap IntKind.i64
  ((100 : Int) + Int.tmod (IntKind.wrap IntKind.i64 (Int.tmod (List.getD x.snd.snd.fst (Int.toNat x_4.fst) (0 : Int)) (↑(List.length x.snd.snd.fst) : Int) + (↑(List.length x.snd.snd.fst) : Int))) (↑(List.length
  x.snd.snd.fst) : Int)))).snd.snd.snd.snd.snd.snd.fst = (ansW x_4.snd (IntKind.wrap IntKind.i64 ((100 : Int) + Int.tmod (IntKind.wrap IntKind.i64 (Int.tmod (List.getD x.snd.snd.fst (Int.toNat x_4.fst) (0 : Int))
  (↑(List.length x.snd.snd.fst) : Int) + (↑(List.length x.snd.snd.fst) : Int))) (↑(List.length x.snd.snd.fst) : Int)))).snd.snd.snd.snd.snd.snd.fst) ∧ Wr (x.fst.fst = x.fst.fst) ∧ Wr (x.fst.snd.fst = x.fst.snd.fst) ∧ Wr
  (x.fst.snd.snd.fst = x.fst.snd.snd.fst) ∧ Wr (x.fst.snd.snd.snd.fst = x.fst.snd.snd.snd.fst))))) (Wr (Decidable.decide ((↑(List.length x_4.snd.snd.snd.snd.snd.fst) : Int) = (↑(List.length x.snd.snd.fst) : Int)) =
  Bool.true → True) ∧ (Decidable.decide ((↑(List.length x_4.snd.snd.snd.snd.snd.fst) : Int) = (↑(List.length x.snd.snd.fst) : Int)) && Bool.true, ()) = (Bool.true, ()))))))) := by kernel_rfl
end Go.Proofs.YtfhlceooobabcaaGreatDoor.Wd
set_option linter.all false
namespace Go.Proofs.YtfhlceooobabcaaGreatDoor.Wd
open Go Go.Eng Go.Lb Go.Ad
set_option maxRecDepth 100000
set_option maxHeartbeats 8000000

theorem okKG_some {w : Wd} (h : okKG (some (w, ())) = true) : okK w = true := by
  simpa [okKG, glW] using h
theorem okKG_of {w : Wd} (h : okK w = true) : okKG (some (w, ())) = true := by simpa [okKG, glW] using h
theorem okK_iff (w : Wd) : okK w = true ↔ w.2.2.2.2.1.length ≤ 1000000 := by simp [okK]
theorem v63 : Vc g63 300 Tryz.f63 (cClone 47 32 AdT) := by
  constructor
  rw [v63_eq]
  simp only [Wr_iff, bcase_iff, true_and, and_true, decide_eq_true_eq, decide_eq_false_iff_not, Bool.and_eq_true, Bool.and_eq_false_iff, Bool.or_eq_true, Bool.or_eq_false_iff, Bool.not_eq_true', Bool.not_eq_false', Option.map_some, Option.getD_some, Option.isSome_some, Option.isSome_map, imp_self, nilL, noneO]
  intro x hx b hb
  exact ⟨hb, fun _ => ⟨by simp; omega, rfl⟩⟩
theorem v74 : Vc g74 300 Tryz.f74 (cClone 129 40 LookT) := by
  constructor
  rw [v74_eq]
  simp only [Wr_iff, bcase_iff, true_and, and_true, decide_eq_true_eq, decide_eq_false_iff_not, Bool.and_eq_true, Bool.and_eq_false_iff, Bool.or_eq_true, Bool.or_eq_false_iff, Bool.not_eq_true', Bool.not_eq_false', Option.map_some, Option.getD_some, Option.isSome_some, Option.isSome_map, imp_self, nilL, noneO]
  intro x hx b hb
  exact ⟨hb, fun _ => ⟨by simp; omega, rfl⟩⟩
theorem v73 : Vc g73 300 Tryz.f73 (cClip LookT) := by
  constructor
  rw [v73_eq]
  simp only [Wr_iff, bcase_iff, true_and, and_true, decide_eq_true_eq, decide_eq_false_iff_not, Bool.and_eq_true, Bool.and_eq_false_iff, Bool.or_eq_true, Bool.or_eq_false_iff, Bool.not_eq_true', Bool.not_eq_false', Option.map_some, Option.getD_some, Option.isSome_some, Option.isSome_map, imp_self, nilL, noneO]
  rintro ⟨l, ⟨⟩⟩ _
  exact ⟨Int.le_refl _, Int.natCast_nonneg _, Int.le_refl _, by simp⟩
theorem v76 : Vc g76 300 Tryz.f76 cNth := by
  constructor
  rw [v76_eq]
  simp only [Wr_iff, bcase_iff, true_and, and_true, decide_eq_true_eq, decide_eq_false_iff_not, Bool.and_eq_true, Bool.and_eq_false_iff, Bool.or_eq_true, Bool.or_eq_false_iff, Bool.not_eq_true', Bool.not_eq_false', Option.map_some, Option.getD_some, Option.isSome_some, Option.isSome_map, imp_self, nilL, noneO]
  rintro ⟨m, n, ⟨⟩⟩ hx
  dsimp only at hx ⊢
  have e : IntKind.wrap .i64 (m - 1) = m - 1 := by simp [IntKind.wrap, IntKind.signed, IntKind.bits]; omega
  rw [e]
theorem v70 : Vc g70 300 Tryz.f70 cLookP := by
  constructor
  rw [v70_eq]
  rintro ⟨o, b, ⟨⟩⟩
  cases o with
  | none => intro h; cases h.out
  | some w =>
  obtain ⟨w, ⟨⟩⟩ := w
  simp only [Wr_iff, bcase_iff, true_and, and_true, decide_eq_true_eq, decide_eq_false_iff_not, Bool.and_eq_true, Bool.and_eq_false_iff, Bool.or_eq_true, Bool.or_eq_false_iff, Bool.not_eq_true', Bool.not_eq_false', Option.map_some, Option.getD_some, Option.isSome_some, Option.isSome_map, imp_self, nilL, noneO]
  intro hx
  have hw := (okK_iff w).1 (okKG_some hx)
  have hl : w.2.2.2.2.1.length ≤ 5000000000 := by omega
  have e : glW (some (w, ())) = w := rfl
  rw [e]
  refine ⟨IdxI.zero _ _, fun i hu => ⟨fun hi => ⟨hu.i0, hi, fun hg => ?_, fun hg => ?_⟩, fun hi => ?_⟩⟩
  · exact congrArg (fun z : Int => (z, ())) (hu.idx LookT.zero hi (decide_eq_true hg))
  · obtain ⟨k1, k2⟩ := hu.on LookT.zero hl hi (decide_eq_false hg)
    exact ⟨k1, k2⟩
  · exact congrArg (fun z : Int => (z, ())) (idx_no (hu.fin hi))
theorem v29 : Vc g29 300 Tryz.f29 cAsk := by
  constructor
  rw [v29_eq]
  simp only [Wr_iff, bcase_iff, true_and, and_true, decide_eq_true_eq, decide_eq_false_iff_not, Bool.and_eq_true, Bool.and_eq_false_iff, Bool.or_eq_true, Bool.or_eq_false_iff, Bool.not_eq_true', Bool.not_eq_false', Option.map_some, Option.getD_some, Option.isSome_some, Option.isSome_map, imp_self, nilL, noneO]
  rintro ⟨w, b, s, ⟨⟩⟩ hx
  dsimp only at hx ⊢
  have hw := (okK_iff w).1 hx
  have e : glW (some (w, ())) = w := rfl
  rw [e]
  have hl : w.2.2.2.2.1.length ≤ 5000000000 := by omega
  refine ⟨okKG_of hx, fun h => ?_, fun h => ⟨CntI.zero _ _, fun ⟨i, n⟩ hu => ⟨fun hi => ⟨hu.i0, hi, fun hg => hu.yes LookT.zero hl hi (decide_eq_true hg), fun hg => hu.no LookT.zero hl hi (decide_eq_false hg)⟩, fun hi => ⟨?_, ?_, ?_⟩⟩⟩⟩
  · have h' : 0 ≤ ixL w.2.2.2.2.1 b := h
    rw [askW, askE, decide_eq_true h']; rfl
  · simp only [List.length_cons, List.length_nil]; omega
  · simp only [List.length_cons, List.length_nil]; omega
  · have h' : ¬ 0 ≤ ixL w.2.2.2.2.1 b := h
    have h4 : n = nthL w.2.2.2.2.1 s := hu.fin hi
    rw [askW, askE, decide_eq_false h', ← h4]; rfl
theorem v30 : Vc g30 300 Tryz.f30 cAsked := by
  constructor
  rw [v30_eq]
  simp only [Wr_iff, bcase_iff, true_and, and_true, decide_eq_true_eq, decide_eq_false_iff_not, Bool.and_eq_true, Bool.and_eq_false_iff, Bool.or_eq_true, Bool.or_eq_false_iff, Bool.not_eq_true', Bool.not_eq_false', Option.map_some, Option.getD_some, Option.isSome_some, Option.isSome_map, imp_self, nilL, noneO]
  rintro ⟨w, b, ⟨⟩⟩ hx
  dsimp only at hx ⊢
  have e : glW (some (w, ())) = w := rfl
  rw [e]
  exact ⟨okKG_of hx, fun h => idx_lt h, fun _ => trivial, fun _ => trivial, rfl⟩
/-! what a plan answers -/
theorem ans_none {p : Pl} {s : ByteArray} (h : p.1.find? (zIs s) = none) (n : Int) : ansR p s n = [] := by
  have : ansL p s = [] := by unfold ansL; rw [h]
  rw [ansR, this]; rfl
theorem ans_some {p : Pl} {s : ByteArray} {z : Zn} (h : p.1.find? (zIs s) = some z) : ansL p s = z.2.1 := by unfold ansL; rw [h]
theorem ans_110 {p : Pl} {s : ByteArray} {n : Int} (h : ansR p s n = []) : (([] : List Ad), (110 : Int), ()) = (ansR p s n, ansE p s n, ()) := by
  rw [ansE, h]; rfl
theorem ans_0 {p : Pl} {s : ByteArray} {n : Int} {r : List Ad} (h : ansR p s n = r) (hr : ¬ (r.length : Int) = 0) : (r, (0 : Int), ()) = (ansR p s n, ansE p s n, ()) := by
  rw [ansE, h, decide_eq_false (show ¬ r.length = 0 by omega)]; rfl
theorem rowAt_eq {l : List (List Ad)} {n : Int} (h : ¬ (l.length : Int) = 0) : rowAt l n = l.getD (min (max n 0) ((l.length : Int) - 1)).toNat [] := by
  rw [rowAt, decide_eq_false (show ¬ l.length = 0 by omega)]; rfl
theorem ck_zone {p : Pl} (hc : checkB p = true) {z : Zn} (hz : z ∈ p.1) : (1 ≤ z.2.1.length ∧ z.2.1.length ≤ 32) ∧ ∀ r ∈ z.2.1, rowOk r = true := by
  have h := (check_iff p).1 hc
  have h1 := (zone_iff z).1 (List.all_eq_true.1 h.1.2 z hz)
  exact ⟨h1.2.1, fun r hr => List.all_eq_true.1 h1.2.2 r hr⟩
theorem ck_zones {p : Pl} (hc : checkB p = true) : p.1.length ≤ 8 := ((check_iff p).1 hc).1.1
theorem row_16 {r : List Ad} (h : rowOk r = true) : r.length ≤ 16 ∧ mayA r = true := by
  simp only [rowOk, Bool.and_eq_true, decide_eq_true_eq] at h
  exact ⟨h.1, h.2.1⟩
/-- a checked plan's answers are rows that may be -/
theorem ans_ok {p : Pl} (hc : checkB p = true) (s : ByteArray) (n : Int) : (ansR p s n).length ≤ 16 ∧ mayA (ansR p s n) = true := by
  cases hf : p.1.find? (zIs s) with
  | none => rw [ans_none hf]; exact ⟨Nat.zero_le _, rfl⟩
  | some z =>
    have hz := ck_zone hc (List.mem_of_find?_eq_some hf)
    have hl : ¬ (z.2.1.length : Int) = 0 := by omega
    rw [ansR, ans_some hf, rowAt_eq hl]
    have hm := minI n (m := (z.2.1.length : Int)) (by omega)
    exact row_16 (hz.2 _ (getD_memA (z := ([] : List Ad)) hm.1 hm.2))
theorem ans_wrap {p : Pl} {z : Zn} (hc : checkB p = true) (hz : z ∈ p.1) : IntKind.wrap .i64 ((z.2.1.length : Int) - 1) = (z.2.1.length : Int) - 1 := by
  have hz := ck_zone hc hz
  exact w64 (by omega) (by omega)
theorem ans_core {p : Pl} {s : ByteArray} {z : Zn} (n : Int) {m : Int} (hc : checkB p = true) (hz : z ∈ p.1) (hf : p.1.find? (zIs s) = some z) (hmm : m = (z.2.1.length : Int) - 1) :
    ¬ (z.2.1.length : Int) = 0 ∧ (0 ≤ min (max n 0) m ∧ min (max n 0) m < (z.2.1.length : Int)) ∧
      ((z.2.1.length : Int) ≤ 32) ∧ ansR p s n = z.2.1.getD (min (max n 0) m).toNat [] ∧ (z.2.1.getD (min (max n 0) m).toNat []).length * 32 ≤ 140737488355328 := by
  subst hmm
  have hz := ck_zone hc hz
  have ha : ¬ (z.2.1.length : Int) = 0 := by omega
  have hm := minI n (m := (z.2.1.length : Int)) (by omega)
  have h16 := (row_16 (hz.2 _ (getD_memA (z := ([] : List Ad)) hm.1 hm.2))).1
  exact ⟨ha, hm, by omega, by rw [ansR, ans_some hf, rowAt_eq ha], by omega⟩
theorem nil_of {l : List Ad} (h : (l.length : Int) = 0) : l = [] := List.length_eq_zero_iff.1 (Int.ofNat_eq_zero.1 h)
theorem v25 : Vc g25 300 Tryz.f25 cAnsP := by
  constructor
  rw [v25_eq]
  simp only [Wr_iff, bcase_iff, true_and, and_true, decide_eq_true_eq, decide_eq_false_iff_not, Bool.and_eq_true, Bool.and_eq_false_iff, Bool.or_eq_true, Bool.or_eq_false_iff, Bool.not_eq_true', Bool.not_eq_false', Option.map_some, Option.getD_some, Option.isSome_some, Option.isSome_map, imp_self, nilL, noneO]
  rintro ⟨p, s, n, ⟨⟩⟩ hc
  dsimp only at hc ⊢
  have hl : p.1.length ≤ 5000000000 := by have := ck_zones hc; omega
  refine ⟨IdxI.zero _ _, fun i hu => ⟨fun hi => ⟨hu.i0, hi, fun hg => ⟨fun h => absurd hu.i0 (by omega), fun _ => ?_⟩, fun hg => hu.on ZoneT.zero hl hi (decide_eq_false hg)⟩, fun hi => ans_110 (ans_none (hu.none hi) n)⟩⟩
  obtain ⟨c1, c3, c4, c5, c6⟩ := ans_core n hc (getD_memA (z := ZoneT.zero) hu.i0 hi) (hu.find ZoneT.zero hi (decide_eq_true hg)) (ans_wrap hc (getD_memA (z := ZoneT.zero) hu.i0 hi))
  refine ⟨hu.i0, hi, fun h => absurd h c1, fun _ => ?_⟩
  refine ⟨c3.1, c3.2, fun h => ans_110 ?_, fun h => ⟨c6, ans_0 c5 h⟩⟩
  rcases h with h | h
  · cases h
  · exact c5.trans (nil_of h)
theorem v32 : Vc g32 300 Tryz.f32 cAnsP := by
  constructor
  rw [v32_eq]
  simp only [Wr_iff, bcase_iff, true_and, and_true, decide_eq_true_eq, decide_eq_false_iff_not, Bool.and_eq_true, Bool.and_eq_false_iff, Bool.or_eq_true, Bool.or_eq_false_iff, Bool.not_eq_true', Bool.not_eq_false', Option.map_some, Option.getD_some, Option.isSome_some, Option.isSome_map, imp_self, nilL, noneO]
  rintro ⟨p, s, n, ⟨⟩⟩ hc
  dsimp only at hc ⊢
  have hl : p.1.length ≤ 5000000000 := by have := ck_zones hc; omega
  refine ⟨IdxI.zero _ _, fun i hu => ⟨fun hi => ⟨hu.i0, hi, fun hg => hu.on ZoneT.zero hl hi (decide_eq_false hg), fun hg => ?_⟩, fun hi => ans_110 (ans_none (hu.none hi) n)⟩⟩
  obtain ⟨c1, c3, c4, c5, c6⟩ := ans_core n hc (getD_memA (z := ZoneT.zero) hu.i0 hi) (hu.find ZoneT.zero hi (decide_eq_true hg)) rfl
  refine ⟨hu.i0, hi, ⟨Int.natCast_nonneg _, Int.le_trans c4 (by decide)⟩, fun _ => hu.i0, fun _ => hi, fun _ => trivial, fun _ => trivial, fun _ => c3.1, fun _ => c3.2, fun _ => trivial, fun h => ans_110 ?_, fun h => ⟨hu.i0, hi, c3.1, c3.2, ?_, ?_⟩⟩
  · rcases h with h | h
    · exact absurd c3.1 (Int.not_le.2 h)
    · exact c5.trans (nil_of h)
  · rw [List.length_nil, Nat.zero_add]
    exact c6
  · rw [List.nil_append]
    exact ans_0 c5 h.2
theorem get_setK {l : List Lk} {i : Int} {d : Lk} (h0 : 0 ≤ i) (h : i < l.length) : (l.set i.toNat d).getD i.toNat LookT.zero = d := by
  rw [List.getD_eq_getElem?_getD, List.getElem?_set_self (by omega)]; rfl
theorem v31 : Vc g31 300 Tryz.f31 cAnsW := by
  constructor
  rw [v31_eq]
  simp only [Wr_iff, bcase_iff, true_and, and_true, decide_eq_true_eq, decide_eq_false_iff_not, Bool.and_eq_true, Bool.and_eq_false_iff, Bool.or_eq_true, Bool.or_eq_false_iff, Bool.not_eq_true', Bool.not_eq_false', Option.map_some, Option.getD_some, Option.isSome_some, Option.isSome_map, imp_self, nilL, noneO]
  rintro ⟨w, b, ⟨⟩⟩ hx
  dsimp only at hx ⊢
  have e : glW (some (w, ())) = w := rfl
  rw [e]
  have hw := (okK_iff w).1 hx.1
  refine ⟨hx.1, fun h => ?_, fun h => ?_⟩
  · rw [ansW, ansM, ansErr, h]; rfl
  · have h0 : 0 ≤ ixL w.2.2.2.2.1 b := by
      simp only [askedW, Bool.and_eq_true, decide_eq_true_eq] at h
      exact h.1
    have hlt : ixL w.2.2.2.2.1 b < w.2.2.2.2.1.length := idx_lt h0
    rw [get_setK h0 hlt, List.length_set]
    dsimp only
    have hk := ans_ok hx.2 (getLk w.2.2.2.2.1 (ixL w.2.2.2.2.1 b)).2.1 (getLk w.2.2.2.2.1 (ixL w.2.2.2.2.1 b)).2.2.1
    refine ⟨okKG_of hx.1, by omega, h0, hlt, h0, hlt, h0, hlt, hx.2, (lenA_iff _).2 (Nat.le_trans hk.1 (by omega)), fun hno => ?_, fun hyes => ?_⟩
    · have hno' : (decide (ansF w b = 0) && decide (row2 (ansA w b) = 0)) = false := by
        rw [Bool.and_eq_false_iff, decide_eq_false_iff_not, decide_eq_false_iff_not]
        exact hno
      rw [ansW, ansM, ansErr, h, hno']; rfl
    · have hyes' : (decide (ansF w b = 0) && decide (row2 (ansA w b) = 0)) = true := by
        rw [Bool.and_eq_true, decide_eq_true_eq, decide_eq_true_eq]
        exact hyes
      rw [ansW, ansM, ansErr, h, hyes']; rfl
end Go.Proofs.YtfhlceooobabcaaGreatDoor.Wd
set_option linter.all false
namespace Go.Proofs.YtfhlceooobabcaaGreatDoor.Wd
open Go Go.Eng Go.Lb Go.Ad
set_option maxRecDepth 100000
set_option maxHeartbeats 8000000

/-! lookups of one name -/
def lkAt (s : ByteArray) (f : Nat → Bool) (k : Nat) : Lk := ((100 : Int) + (k : Int), s, (k : Int), f k, ())
theorem lks_len (s : ByteArray) (f : Nat → Bool) (n : Nat) : (lksN s f n).length = n := by simp [lksN]
theorem lks_get {s : ByteArray} {f : Nat → Bool} {n k : Nat} (h : k < n) : (lksN s f n)[k]? = some (lkAt s f k) := by
  simp [lksN, lkAt, h]
theorem lks_getD {s : ByteArray} {f : Nat → Bool} {n k : Nat} (z : Lk) (h : k < n) : (lksN s f n).getD k z = lkAt s f k := by
  rw [List.getD_eq_getElem?_getD, lks_get h]; rfl
theorem lks_mem {s : ByteArray} {f : Nat → Bool} {n : Nat} {x : Lk} (h : x ∈ lksN s f n) : ∃ j, j < n ∧ x = lkAt s f j := by
  unfold lksN at h
  obtain ⟨j, hj, rfl⟩ := List.mem_map.1 h
  exact ⟨j, List.mem_range.1 hj, rfl⟩
theorem lks_any {s : ByteArray} {f : Nat → Bool} {n k : Nat} (h : n ≤ k) : (lksN s f n).any (lkIs ((100 : Int) + (k : Int))) = false := by
  rw [List.any_eq_false]
  intro x hx
  obtain ⟨j, hj, rfl⟩ := lks_mem hx
  intro e
  have e' : ((100 : Int) + (j : Int)) = (100 : Int) + (k : Int) := of_decide_eq_true e
  omega
theorem lks_take {s : ByteArray} {f : Nat → Bool} {n k : Nat} (h : k ≤ n) : (lksN s f n).take k = lksN s f k := by
  unfold lksN
  rw [← List.map_take, List.take_range, Nat.min_eq_left h]
theorem lks_ix {s : ByteArray} {f : Nat → Bool} {n k : Nat} (h : k < n) : ixL (lksN s f n) ((100 : Int) + (k : Int)) = (k : Int) := by
  have hI : IdxI (lkIs ((100 : Int) + (k : Int))) (lksN s f n) (k : Int) := ⟨Int.natCast_nonneg _, by rw [lks_len]; omega, by rw [Int.toNat_natCast, lks_take (Nat.le_of_lt h)]; exact lks_any (Nat.le_refl _)⟩
  exact (hI.idx zLk (by rw [lks_len]; omega) (by rw [Int.toNat_natCast, lks_getD zLk h]; simp [lkIs, lkAt])).symm
theorem lks_no {s : ByteArray} {f : Nat → Bool} {n k : Nat} (h : n ≤ k) : ixL (lksN s f n) ((100 : Int) + (k : Int)) = -1 := (idx_no (lks_any h)).symm
theorem lks_nth (s : ByteArray) (f : Nat → Bool) (n : Nat) : nthL (lksN s f n) s = (n : Int) := by
  unfold nthL
  rw [List.filter_eq_self.2 (fun x hx => by obtain ⟨j, _, rfl⟩ := lks_mem hx; simp [nmIs, lkAt]), lks_len]
theorem lks_succ (s : ByteArray) (f : Nat → Bool) (n : Nat) : lksN s f (n + 1) = lksN s f n ++ [lkAt s f n] := by
  simp [lksN, lkAt, List.range_succ]
theorem lks_set {s : ByteArray} {f : Nat → Bool} {n k : Nat} (h : k < n) : (lksN s f n).set k (doneL (lkAt s f k)) = lksN s (fun j => decide (j = k) || f j) n := by
  apply List.ext_getElem?
  intro j
  by_cases hj : j < n
  · rw [lks_get hj, List.getElem?_set]
    by_cases e : k = j
    · subst e
      rw [if_pos rfl, if_pos (by rw [lks_len]; exact h)]
      simp [doneL, lkAt]
    · rw [if_neg e, lks_get hj]
      have : decide (j = k) = false := decide_eq_false (fun e' => e e'.symm)
      simp [lkAt, this]
  · rw [List.getElem?_eq_none (by rw [List.length_set, lks_len]; omega), List.getElem?_eq_none (by rw [lks_len]; omega)]

theorem ask_next (p : Pl) (s : ByteArray) (n : Nat) : askE (wdN p (lksN s (fun _ => false) n)) ((100 : Int) + (n : Int)) = 0 ∧ askW (wdN p (lksN s (fun _ => false) n)) ((100 : Int) + (n : Int)) s = wdN p (lksN s (fun _ => false) (n + 1)) := by
  have e : ixL (wdN p (lksN s (fun _ => false) n)).2.2.2.2.1 ((100 : Int) + (n : Int)) = -1 := lks_no (Nat.le_refl n)
  unfold askE askW
  rw [e]
  refine ⟨rfl, ?_⟩
  show putLk (wdN p (lksN s (fun _ => false) n)) (lksN s (fun _ => false) n ++ [((100 : Int) + (n : Int), s, nthL (lksN s (fun _ => false) n) s, false, ())]) = _
  rw [lks_nth, lks_succ]
  rfl
theorem get_lk {s : ByteArray} {f : Nat → Bool} {n k : Nat} (h : k < n) : getLk (lksN s f n) (k : Int) = lkAt s f k := by
  unfold getLk
  rw [Int.toNat_natCast]
  exact lks_getD zLk h
theorem asked_n (p : Pl) {s : ByteArray} {f : Nat → Bool} {n k : Nat} (h : k < n) : askedW (wdN p (lksN s f n)) ((100 : Int) + (k : Int)) = !f k := by
  have e : ixL (wdN p (lksN s f n)).2.2.2.2.1 ((100 : Int) + (k : Int)) = (k : Int) := lks_ix h
  unfold askedW
  rw [e]
  rw [show (wdN p (lksN s f n)).2.2.2.2.1 = lksN s f n from rfl, get_lk h, decide_eq_true (Int.natCast_nonneg k)]
  rfl
theorem row_good {p : Pl} (hc : checkB p = true) (s : ByteArray) (n : Int) : row2 (ansR p s n) = 0 := by
  obtain ⟨h1, h2⟩ := ans_ok hc s n
  unfold row2 Go.Ad.rowOk
  rw [decide_eq_true h1, h2]
  rfl
theorem ansE_ne {p : Pl} {s : ByteArray} {n : Int} (h : ansE p s n ≠ 0) : ansR p s n = [] := by
  unfold ansE at h
  cases hd : decide ((ansR p s n).length = 0) with
  | false => rw [hd] at h; exact absurd rfl h
  | true => exact List.length_eq_zero_iff.1 (of_decide_eq_true hd)
structure Ans1 (p : Pl) (s : ByteArray) (k : Nat) (n : Nat) (f : Nat → Bool) (w : Wd) : Prop where
  asked : askedW w ((100 : Int) + (k : Int)) = true
  err : ansErr w ((100 : Int) + (k : Int)) = 0
  wd : ansW w ((100 : Int) + (k : Int)) = wdN p (lksN s (fun j => decide (j = k) || f j) n)
  m1 : (ansM w ((100 : Int) + (k : Int))).1 = 7
  m2 : (decide ((ansM w ((100 : Int) + (k : Int))).2.2.2.2.2.1 = 0) == decide (ansE p s (k : Int) = 0)) = true
  m3 : (ansM w ((100 : Int) + (k : Int))).2.2.2.2.1 = row1 (ansR p s (k : Int))
theorem ans_at {p : Pl} (hc : checkB p = true) {s : ByteArray} {f : Nat → Bool} {n k : Nat} (h : k < n) (hf : f k = false) : Ans1 p s k n f (wdN p (lksN s f n)) := by
  have ha : askedW (wdN p (lksN s f n)) ((100 : Int) + (k : Int)) = true := by rw [asked_n p h, hf]; rfl
  have e : ixL (wdN p (lksN s f n)).2.2.2.2.1 ((100 : Int) + (k : Int)) = (k : Int) := lks_ix h
  have eg : getLk (wdN p (lksN s f n)).2.2.2.2.1 (k : Int) = lkAt s f k := get_lk h
  have eA : ansA (wdN p (lksN s f n)) ((100 : Int) + (k : Int)) = ansR p s (k : Int) := by unfold ansA; rw [e, eg]; rfl
  have eF : ansF (wdN p (lksN s f n)) ((100 : Int) + (k : Int)) = ansE p s (k : Int) := by unfold ansF; rw [e, eg]; rfl
  have hr : row2 (ansR p s (k : Int)) = 0 := row_good hc s k
  refine ⟨ha, by unfold ansErr; rw [ha]; rfl, ?_, ?_, ?_, ?_⟩
  · unfold ansW
    rw [ha, e, eg, Int.toNat_natCast]
    show putLk (wdN p (lksN s f n)) ((lksN s f n).set k (doneL (lkAt s f k))) = _
    rw [lks_set h]
    rfl
  all_goals
    unfold ansM
    rw [ha, eA, eF, hr]
    by_cases h0 : ansE p s (k : Int) = 0
    · rw [decide_eq_true h0]; rfl
    · rw [decide_eq_false h0]
      first
        | rfl
        | (rw [ansE_ne h0]; rfl)
end Go.Proofs.YtfhlceooobabcaaGreatDoor.Wd
set_option linter.all false
namespace Go.Proofs.YtfhlceooobabcaaGreatDoor.Wd
open Go Go.Eng Go.Lb Go.Ad
set_option maxRecDepth 100000
set_option maxHeartbeats 8000000
theorem turn_k {m : Int} {n : Nat} (hn : (n : Int) ≤ 40) (h0 : 0 < (n : Int)) : ∃ k : Nat, k < n ∧ (IntKind.wrap .i64 (m.tmod (n : Int) + (n : Int))).tmod (n : Int) = (k : Int) := by
  have h1 : m.tmod (n : Int) < n := Int.tmod_lt_of_pos m h0
  have h2 : -(n : Int) < m.tmod (n : Int) := Int.lt_tmod_of_pos m h0
  have e : IntKind.wrap .i64 (m.tmod (n : Int) + (n : Int)) = m.tmod (n : Int) + (n : Int) := w64 (by omega) (by omega)
  rw [e, Int.tmod_eq_emod_of_nonneg (by omega)]
  have h3 := Int.emod_nonneg (m.tmod (n : Int) + (n : Int)) (show (n : Int) ≠ 0 by omega)
  have h4 := Int.emod_lt_of_pos (m.tmod (n : Int) + (n : Int)) h0
  exact ⟨((m.tmod (n : Int) + (n : Int)) % (n : Int)).toNat, by omega, by omega⟩
theorem newN {p : Pl} (hc : checkB p = true) (s : ByteArray) : newW p = wdN p (lksN s (fun _ => false) 0) := by
  rw [newW, hc]; rfl
theorem okN_ (p : Pl) (s : ByteArray) (f : Nat → Bool) {n : Nat} (hn : n ≤ 41) : okK (wdN p (lksN s f n)) = true := by
  rw [okK_iff]
  show (lksN s f n).length ≤ 1000000
  rw [lks_len]; omega
theorem v6 : Vc g6 300 Tryz.f6 (cLw aAns) := by
  constructor
  rw [v6_eq]
  simp only [Wr_iff, bcase_iff, true_and, and_true, decide_eq_true_eq, decide_eq_false_iff_not, Bool.and_eq_true, Bool.and_eq_false_iff, Bool.or_eq_true, Bool.or_eq_false_iff, Bool.not_eq_true', Bool.not_eq_false', Option.map_some, Option.getD_some, Option.isSome_some, Option.isSome_map, imp_self, nilL, noneO]
  rintro ⟨p, s, l, ⟨⟩⟩ _
  dsimp only
  refine ⟨by omega, fun ⟨n1, i⟩ hi0 => ⟨fun hi => ?_, fun _ => ⟨by omega, fun ⟨n2, i2⟩ hi2 => ⟨fun hi => ?_, fun _ => ?_⟩⟩⟩⟩
  · dsimp only at hi0 hi ⊢
    refine ⟨hi0, hi.1, fun _ => hi0, fun _ => hi.1, fun _ => trivial, fun _ => trivial, fun _ => trivial, fun hk => ⟨⟨hi0, hi.1, hi.2, by omega, ?_⟩, fun ⟨n3, k⟩ hu => ⟨hi0, hi.1, fun hk2 => ⟨hi0, hi.1, hu.k0, hk2, ?_⟩, fun _ => ?_⟩⟩⟩
    · have := hk.1
      show (p.1.getD i.toNat ZoneT.zero).2.1.length ≤ 60
      omega
    · have h0 := hu.k0
      have hm : (p.1.getD i.toNat ZoneT.zero).2.1.length ≤ 60 := hu.m
      dsimp only at h0 hk2 ⊢
      have e : IntKind.wrap .i64 (k + 1) = k + 1 := w64 (by omega) (by omega)
      rw [e]
      exact ⟨⟨hi0, hi.1, hi.2, by omega, hm⟩, by omega⟩
    · have e : IntKind.wrap .i64 (i + 1) = i + 1 := w64 (by omega) (by omega)
      rw [e]
      have := hi.1
      omega
  · dsimp only at hi2 hi ⊢
    have e : IntKind.wrap .i64 (i2 + 1) = i2 + 1 := w64 (by omega) (by omega)
    rw [e]
    have := hi.1
    omega
  · refine ⟨fun _ => trivial, fun h => ?_⟩
    have hck : checkB p = true := (check_0 p).1 h.1.1.2
    have hn : l.length ≤ 40 := by have := h.1.2; omega
    refine ⟨⟨hck, hn, Int.le_refl _, by show (0 : Int) ≤ l.length; omega, newN hck s⟩, fun ⟨i, w⟩ I => ⟨fun hi => ?_, fun hno => ⟨?_, fun ⟨j, w2⟩ J => ⟨fun hj => ?_, fun hj => ?_⟩⟩⟩⟩
    · have i0 : 0 ≤ i := I.i0
      obtain rfl : w = wdN p (lksN s (fun _ => false) i.toNat) := I.w
      dsimp only at hi ⊢
      obtain ⟨k, rfl⟩ : ∃ k : Nat, i = (k : Int) := ⟨i.toNat, by omega⟩
      rw [Int.toNat_natCast]
      have e : IntKind.wrap .i64 ((100 : Int) + (k : Int)) = (100 : Int) + (k : Int) := w64 (by omega) (by omega)
      have e2 : IntKind.wrap .i64 ((k : Int) + 1) = ((k + 1 : Nat) : Int) := (w64 (by omega) (by omega)).trans (by omega)
      obtain ⟨a1, a2⟩ := ask_next p s k
      rw [e, e2, a1, a2, asked_n p (Nat.lt_succ_self k)]
      refine ⟨okN_ p s _ (by omega), fun _ => okN_ p s _ (by omega), fun hf => ?_, fun _ => ⟨⟨hck, hn, Int.natCast_nonneg _, by show ((k + 1 : Nat) : Int) ≤ l.length; omega, by rw [Int.toNat_natCast]⟩, by omega⟩⟩
      rcases hf with hf | hf
      · exact absurd rfl hf
      · cases hf
    · have i0 : 0 ≤ i := I.i0
      have i1 : i ≤ l.length := I.i1
      dsimp only at hno ⊢
      have hw : w = wdN p (lksN s (fun _ => false) i.toNat) := I.w
      have e : i.toNat = l.length := by omega
      rw [e] at hw
      exact ⟨hck, hn, Int.le_refl _, by show (0 : Int) ≤ l.length; omega, ⟨_, hw⟩⟩
    · have j0 : 0 ≤ j := J.i0
      obtain ⟨f, rfl⟩ : ∃ f : Nat → Bool, w2 = wdN p (lksN s f l.length) := J.w
      dsimp only at hj ⊢
      obtain ⟨k, hk, ek⟩ := turn_k (m := l.getD j.toNat 0) (n := l.length) (by omega) (by omega)
      rw [ek]
      have e : IntKind.wrap .i64 ((100 : Int) + (k : Int)) = (100 : Int) + (k : Int) := w64 (by omega) (by omega)
      have e2 : IntKind.wrap .i64 (j + 1) = j + 1 := w64 (by omega) (by omega)
      rw [e, e2]
      have hq : IntKind.wrap .i64 (j + 1) = j + 1 := e2
      have hok := okN_ p s f (n := l.length) (by omega)
      cases hf : f k with
      | false =>
        have A := ans_at hck (s := s) (n := l.length) hk hf
        have ha2 : askedW (ansW (wdN p (lksN s f l.length)) ((100 : Int) + (k : Int))) ((100 : Int) + (k : Int)) = false := by
          rw [A.wd, asked_n p hk, decide_eq_true rfl]; rfl
        rw [A.asked, A.err]
        refine ⟨j0, hj, by omega, by omega, hok, ⟨hok, hck⟩, fun h => by simp at h, fun _ => ⟨fun h => (by cases h), fun _ => ⟨hck, (lenA_iff _).2 (Nat.le_trans (ans_ok hck s k).1 (by omega)), fun _ => by rw [A.wd]; exact okN_ p s _ (by omega), fun h => ?_, fun _ => ⟨⟨hck, hn, by show (0 : Int) ≤ j + 1; omega, by show j + 1 ≤ (l.length : Int); omega, ⟨_, A.wd⟩⟩, by omega⟩⟩⟩⟩
        rcases h with ((h | h) | h) | h
        · exact absurd A.m1 h
        · rw [A.m2] at h; cases h
        · exact absurd A.m3 h
        · rw [ha2] at h; cases h
      | true =>
        have ha : askedW (wdN p (lksN s f l.length)) ((100 : Int) + (k : Int)) = false := by rw [asked_n p hk, hf]; rfl
        have he : ansErr (wdN p (lksN s f l.length)) ((100 : Int) + (k : Int)) = 101 := by unfold ansErr; rw [ha]; rfl
        rw [ha, he]
        exact ⟨j0, hj, by omega, by omega, hok, ⟨hok, hck⟩, fun h => by simp at h, fun _ => ⟨fun _ => ⟨⟨hck, hn, by show (0 : Int) ≤ j + 1; omega, by show j + 1 ≤ (l.length : Int); omega, ⟨f, rfl⟩⟩, by omega⟩, fun h => (by cases h)⟩⟩
    · obtain ⟨f, rfl⟩ : ∃ f : Nat → Bool, w2 = wdN p (lksN s f l.length) := J.w
      have e : (wdN p (lksN s f l.length)).2.2.2.2.1.length = l.length := lks_len s f l.length
      refine ⟨fun _ => trivial, ?_⟩
      dsimp only
      rw [e, decide_eq_true rfl]
      rfl
end Go.Proofs.YtfhlceooobabcaaGreatDoor.Wd
namespace Go.Proofs.YtfhlceooobabcaaGreatDoor.Wd
open Go Go.Eng Go.Lb Go.Ad
set_option maxRecDepth 100000
theorem val63 : Valid Tryz.prog GA 63 ((cClone 47 32 AdT)) := mkValid gas Tb.mix Tb.tab_ok Tb.eqs_ok g63 rfl allV_nil allI_nil Tryz.func63 (by kernel_rfl) v63
theorem val73 : Valid Tryz.prog GA 73 ((cClip LookT)) := mkValid gas Tb.mix Tb.tab_ok Tb.eqs_ok g73 rfl allV_nil allI_nil Tryz.func73 (by kernel_rfl) v73
theorem val74 : Valid Tryz.prog GA 74 ((cClone 129 40 LookT)) := mkValid gas Tb.mix Tb.tab_ok Tb.eqs_ok g74 rfl allV_nil allI_nil Tryz.func74 (by kernel_rfl) v74
theorem val76 : Valid Tryz.prog GA 76 cNth := mkValid gas Tb.mix Tb.tab_ok Tb.eqs_ok g76 rfl allV_nil allI_nil Tryz.func76 (by kernel_rfl) v76
theorem val25 : Valid Tryz.prog GA 25 cAnsP := mkValid gas Tb.mix Tb.tab_ok Tb.eqs_ok g25 rfl (allV_cons val63 allV_nil) (allI_cons Tryz.func60 (by kernel_rfl) (allI_cons Tryz.func61 (by kernel_rfl) (allI_cons Tryz.func62 (by kernel_rfl) allI_nil))) Tryz.func25 (by kernel_rfl) v25
theorem val32 : Valid Tryz.prog GA 32 cAnsP := mkValid gas Tb.mix Tb.tab_ok Tb.eqs_ok g32 rfl (allV_cons val76 allV_nil) allI_nil Tryz.func32 (by kernel_rfl) v32
theorem val70 : Valid Tryz.prog GA 70 cLookP := mkValid gas Tb.mix Tb.tab_ok Tb.eqs_ok g70 rfl allV_nil (allI_cons Tryz.func108 (by kernel_rfl) (allI_cons Tryz.func109 (by kernel_rfl) (allI_cons Tryz.func135 (by kernel_rfl) allI_nil))) Tryz.func70 (by kernel_rfl) v70
theorem val29 : Valid Tryz.prog GA 29 cAsk := mkValid gas Tb.mix Tb.tab_ok Tb.eqs_ok g29 rfl (allV_cons val70 (allV_cons val73 allV_nil)) (allI_cons Tryz.func71 (by kernel_rfl) (allI_cons Tryz.func72 (by kernel_rfl) allI_nil)) Tryz.func29 (by kernel_rfl) v29
theorem val30 : Valid Tryz.prog GA 30 cAsked := mkValid gas Tb.mix Tb.tab_ok Tb.eqs_ok g30 rfl (allV_cons val70 allV_nil) allI_nil Tryz.func30 (by kernel_rfl) v30
theorem val31 : Valid Tryz.prog GA 31 cAnsW := mkValid gas Tb.mix Tb.tab_ok Tb.eqs_ok g31 rfl (allV_cons val25 (allV_cons val30 (allV_cons val70 (allV_cons val74 (allV_cons val75 allV_nil))))) allI_nil Tryz.func31 (by kernel_rfl) v31
theorem v9B : vcB g9 300 Tryz.f9 cWk.r (cWk.F ()) = true := by kernel_rfl
theorem v9 : Vc g9 300 Tryz.f9 cWk := Vc.ofB (r := cWk.r) (y := cWk.F ()) v9B
theorem val9 : Valid Tryz.prog GA 9 cWk := mkValid gas Tb.mix Tb.tab_ok Tb.eqs_ok g9 rfl (allV_cons (up val10) (allV_cons (up val17) (allV_cons (up val18) (allV_cons (up val19) (allV_cons (up val20) (allV_cons (up val21) allV_nil)))))) (allI_cons Tryz.func35 (by kernel_rfl) allI_nil) Tryz.func9 (by kernel_rfl) v9
theorem val6 : Valid Tryz.prog GA 6 ((cLw aAns)) := mkValid gas Tb.mix Tb.tab_ok Tb.eqs_ok g6 rfl (allV_cons val9 (allV_cons (up val10) (allV_cons val29 (allV_cons val30 (allV_cons val31 (allV_cons val32 (allV_cons val33 allV_nil))))))) (allI_cons Tryz.func7 (by kernel_rfl) allI_nil) Tryz.func6 (by kernel_rfl) v6
end Go.Proofs.YtfhlceooobabcaaGreatDoor.Wd

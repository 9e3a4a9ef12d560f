/-
  A text of mine, of several parts: Bk3Vc, BkP3, Bk3V, BkDef4, Bk8Cfg, Bk8Vc, BkP8, Bk8V, BkDefB, BkbCfg, BkbVc, BkPB, BkbV, BkLd, BkDefP, BkpCfg, BkpVcS.
-/
import Derived.Test.YtdkcgcgefgeooaaBpa
import Derived.Test.YtdkcgcgefgeooaaBpb
import Derived.Test.YtdkcgcgefgeooaaBpc
import Derived.Test.YtdkcgcgefgeooaaBpd
set_option linter.all false
namespace Go.Proofs.Ytdkcgcgefgeooaa.Bk
open Go Go.Eng 
set_option maxRecDepth 100000
theorem v17_eq : vcFn g17 300 Try.f17 cTold = ( ∀ (x : ((Int × Int × Int × Int × Int × Int × Int × Int × Int × Unit) × List (Int × Int × Unit) × List Int × List Int × (Int × Bool × Int × Unit) × List ((Int × (Int × Int × Int × Int × Int × Int × Int × Int × Unit) × Int
  × Unit) × Int × Unit) × Bool × Unit) × Int × Int × List (Int × (Int × Int × Int × Int × Int × Int × Int × Int × Unit) × Int × Unit) × Int × List Int × Unit), Wr ((szB x.fst && szI x.snd.snd.snd.snd.snd.fst &&
  Decidable.decide (List.length x.snd.snd.snd.fst = (0 : Nat))) = Bool.true) → Wr (Bool.true = Bool.true) ∧ Wr ((Decidable.decide (List.length x.fst.snd.snd.snd.snd.snd.fst ≤ (1000000 : Nat)) && Decidable.decide
  (List.length x.snd.snd.snd.fst = (0 : Nat))) = Bool.true) ∧ bcase (Decidable.decide (x.snd.snd.fst = (0 : Int))) (bcase (!x.fst.snd.snd.snd.snd.snd.snd.fst) (Wr (Bool.true = Bool.true) ∧ bcase (Bool.true && (Bool.false
  || hasN x.snd.snd.snd.snd.snd.fst x.snd.fst)) (Wr (List.length (x.snd.fst :: nilL Int) * (8 : Nat) ≤ (140737488355328 : Nat)) ∧ Wr ((!x.fst.snd.snd.snd.snd.snd.snd.fst) = Bool.true → Bool.true = Bool.true) ∧
  ((x.fst.fst, x.fst.snd.fst, x.fst.snd.snd.fst, x.fst.snd.snd.snd.fst, endF x.fst.snd.snd.snd.snd.fst, noteS x.fst.snd.snd.snd.snd.snd.fst, x.fst.snd.snd.snd.snd.snd.snd), (nilL (Int × Int × Int × Unit), x.snd.fst ::
  nilL Int, !x.fst.snd.snd.snd.snd.snd.snd.fst && startsF (endF x.fst.snd.snd.snd.snd.fst), Bool.false, ()), ()) = (outB (toldD x.fst x.snd.fst x.snd.snd.fst x.snd.snd.snd.snd.fst x.snd.snd.snd.snd.snd.fst), outT (toldD
  x.fst x.snd.fst x.snd.snd.fst x.snd.snd.snd.snd.fst x.snd.snd.snd.snd.snd.fst), ())) (bcase (Decidable.decide (x.snd.snd.fst = (0 : Int))) (bcase (Decidable.decide ((↑(List.length x.fst.snd.snd.snd.fst) : Int) > (0 :
  Int))) (Wr ((0 : Int) ≤ (0 : Int)) ∧ Wr ((0 : Int) < (↑(List.length x.fst.snd.snd.snd.fst) : Int)) ∧ Wr (Bool.true = Bool.true) ∧ Wr ((0 : Int) ≤ (1 : Int)) ∧ Wr ((1 : Int) ≤ (↑(List.length x.fst.snd.snd.snd.fst) :
  Int)) ∧ Wr ((↑(List.length x.fst.snd.snd.snd.fst) : Int) ≤ (↑(List.length x.fst.snd.snd.snd.fst) : Int)) ∧ Wr (Decidable.decide (List.length (List.drop (Int.toNat (1 : Int)) (List.take (Int.toNat (↑(List.length
  x.fst.snd.snd.snd.fst) : Int)) x.fst.snd.snd.snd.fst)) * (8 : Nat) ≤ (140737488355328 : Nat)) = Bool.true) ∧ Wr True ∧ Wr ((List.length x.fst.snd.snd.fst + List.length (x.snd.fst :: nilL Int)) * (8 : Nat) ≤
  (140737488355328 : Nat)) ∧ Wr ((0 : Nat) < List.length (x.snd.fst :: nilL Int)) ∧ Wr (List.length ((List.getD x.fst.snd.snd.snd.fst (Int.toNat (0 : Int)) (0 : Int), x.snd.fst, (0 : Int), ()) :: nilL (Int × Int × Int ×
  Unit)) * (24 : Nat) ≤ (140737488355328 : Nat)) ∧ Wr (Bool.true = Bool.true) ∧ Wr ((!x.fst.snd.snd.snd.snd.snd.snd.fst) = Bool.true → Bool.true = Bool.true) ∧ ((x.fst.fst, x.fst.snd.fst, x.fst.snd.snd.fst ++ x.snd.fst ::
  nilL Int, List.drop (Int.toNat (1 : Int)) (List.take (Int.toNat (↑(List.length x.fst.snd.snd.snd.fst) : Int)) x.fst.snd.snd.snd.fst), partF (endF x.fst.snd.snd.snd.snd.fst) (1 : Int), noteS
  x.fst.snd.snd.snd.snd.snd.fst, x.fst.snd.snd.snd.snd.snd.snd), ((List.getD x.fst.snd.snd.snd.fst (Int.toNat (0 : Int)) (0 : Int), x.snd.fst, (0 : Int), ()) :: nilL (Int × Int × Int × Unit), nilL Int,
  !x.fst.snd.snd.snd.snd.snd.snd.fst && startsF (partF (endF x.fst.snd.snd.snd.snd.fst) (1 : Int)), Bool.false || partC (endF x.fst.snd.snd.snd.snd.fst) (1 : Int), ()), ()) = (outB (toldD x.fst x.snd.fst x.snd.snd.fst
  x.snd.snd.snd.snd.fst x.snd.snd.snd.snd.snd.fst), outT (toldD x.fst x.snd.fst x.snd.snd.fst x.snd.snd.snd.snd.fst x.snd.snd.snd.snd.snd.fst), ())) (bcase (Decidable.decide ((↑(List.length x.fst.snd.fst) : Int) <
  x.fst.fst.snd.fst)) (Wr True ∧ Wr ((List.length x.fst.snd.fst + List.length ((x.snd.fst, x.snd.snd.snd.snd.fst, ()) :: nilL (Int × Int × Unit))) * (16 : Nat) ≤ (140737488355328 : Nat)) ∧ Wr ((0 : Nat) < List.length
  ((x.snd.fst, x.snd.snd.snd.snd.fst, ()) :: nilL (Int × Int × Unit))) ∧ Wr ((!x.fst.snd.snd.snd.snd.snd.snd.fst) = Bool.true → Bool.true = Bool.true) ∧ ((x.fst.fst, x.fst.snd.fst ++ (x.snd.fst, x.snd.snd.snd.snd.fst, ())
  :: nilL (Int × Int × Unit), x.fst.snd.snd.fst, x.fst.snd.snd.snd.fst, endF x.fst.snd.snd.snd.snd.fst, noteS x.fst.snd.snd.snd.snd.snd.fst, x.fst.snd.snd.snd.snd.snd.snd), (nilL (Int × Int × Int × Unit), nilL Int,
  !x.fst.snd.snd.snd.snd.snd.snd.fst && startsF (endF x.fst.snd.snd.snd.snd.fst), Bool.false, ()), ()) = (outB (toldD x.fst x.snd.fst x.snd.snd.fst x.snd.snd.snd.snd.fst x.snd.snd.snd.snd.snd.fst), outT (toldD x.fst
  x.snd.fst x.snd.snd.fst x.snd.snd.snd.snd.fst x.snd.snd.snd.snd.snd.fst), ())) (Wr (List.length (x.snd.fst :: nilL Int) * (8 : Nat) ≤ (140737488355328 : Nat)) ∧ Wr ((!x.fst.snd.snd.snd.snd.snd.snd.fst) = Bool.true →
  Bool.true = Bool.true) ∧ ((x.fst.fst, x.fst.snd.fst, x.fst.snd.snd.fst, x.fst.snd.snd.snd.fst, endF x.fst.snd.snd.snd.snd.fst, noteS x.fst.snd.snd.snd.snd.snd.fst, x.fst.snd.snd.snd.snd.snd.snd), (nilL (Int × Int × Int
  × Unit), x.snd.fst :: nilL Int, !x.fst.snd.snd.snd.snd.snd.snd.fst && startsF (endF x.fst.snd.snd.snd.snd.fst), Bool.false, ()), ()) = (outB (toldD x.fst x.snd.fst x.snd.snd.fst x.snd.snd.snd.snd.fst
  x.snd.snd.snd.snd.snd.fst), outT (toldD x.fst x.snd.fst x.snd.snd.fst x.snd.snd.snd.snd.fst x.snd.snd.snd.snd.snd.fst), ())))) (bcase (!Decidable.decide (x.snd.snd.fst = (191 : Int))) ((Wr (AlI x.fst.snd.snd.snd.fst
  x.snd.snd.fst (0 : Int) (nilL (Int × Int × Int × Unit))) ∧ Wr ((0 : Int) = (0 : Int)) ∧ Wr (x.snd.snd.fst = x.snd.snd.fst) ∧ Wr (x.fst.snd.snd.snd.fst = x.fst.snd.snd.snd.fst) ∧ Wr ((↑(List.length x.fst.snd.snd.snd.fst)
  : Int) = (↑(List.length x.fst.snd.snd.snd.fst) : Int)) ∧ Wr (x.fst.fst.fst = x.fst.fst.fst) ∧ Wr (x.fst.fst.snd.fst = x.fst.fst.snd.fst) ∧ Wr (x.fst.fst.snd.snd.fst = x.fst.fst.snd.snd.fst) ∧ Wr
  (x.fst.fst.snd.snd.snd.fst = x.fst.fst.snd.snd.snd.fst) ∧ Wr (x.fst.fst.snd.snd.snd.snd.fst = x.fst.fst.snd.snd.snd.snd.fst) ∧ Wr (x.fst.fst.snd.snd.snd.snd.snd.fst = x.fst.fst.snd.snd.snd.snd.snd.fst) ∧ Wr
  (x.fst.fst.snd.snd.snd.snd.snd.snd.fst = x.fst.fst.snd.snd.snd.snd.snd.snd.fst) ∧ Wr (x.fst.fst.snd.snd.snd.snd.snd.snd.snd.fst = x.fst.fst.snd.snd.snd.snd.snd.snd.snd.fst) ∧ Wr
  (x.fst.fst.snd.snd.snd.snd.snd.snd.snd.snd.fst = x.fst.fst.snd.snd.snd.snd.snd.snd.snd.snd.fst) ∧ Wr (x.fst.snd.fst = x.fst.snd.fst) ∧ Wr (x.fst.snd.snd.fst = x.fst.snd.snd.fst) ∧ Wr (x.fst.snd.snd.snd.fst =
  x.fst.snd.snd.snd.fst) ∧ Wr ((endF x.fst.snd.snd.snd.snd.fst).fst = (endF x.fst.snd.snd.snd.snd.fst).fst) ∧ Wr ((endF x.fst.snd.snd.snd.snd.fst).snd.fst = (endF x.fst.snd.snd.snd.snd.fst).snd.fst) ∧ Wr ((endF
  x.fst.snd.snd.snd.snd.fst).snd.snd.fst = (endF x.fst.snd.snd.snd.snd.fst).snd.snd.fst) ∧ Wr (noteS x.fst.snd.snd.snd.snd.snd.fst = noteS x.fst.snd.snd.snd.snd.snd.fst) ∧ Wr (x.fst.snd.snd.snd.snd.snd.snd.fst =
  x.fst.snd.snd.snd.snd.snd.snd.fst) ∧ Wr (Bool.false = Bool.false) ∧ Wr (Bool.false = Bool.false) ∧ Wr (x.snd.snd.snd.snd.fst = x.snd.snd.snd.snd.fst) ∧ Wr (x.snd.snd.snd.snd.snd.fst = x.snd.snd.snd.snd.snd.fst) ∧ Wr
  (nilL (Int × Int × Int × Unit) = nilL (Int × Int × Int × Unit)) ∧ Wr (x.fst.fst.fst = x.fst.fst.fst) ∧ Wr (x.fst.fst.snd.fst = x.fst.fst.snd.fst) ∧ Wr (x.fst.fst.snd.snd.fst = x.fst.fst.snd.snd.fst) ∧ Wr
  (x.fst.fst.snd.snd.snd.fst = x.fst.fst.snd.snd.snd.fst) ∧ Wr (x.fst.fst.snd.snd.snd.snd.fst = x.fst.fst.snd.snd.snd.snd.fst) ∧ Wr (x.fst.fst.snd.snd.snd.snd.snd.fst = x.fst.fst.snd.snd.snd.snd.snd.fst) ∧ Wr
  (x.fst.fst.snd.snd.snd.snd.snd.snd.fst = x.fst.fst.snd.snd.snd.snd.snd.snd.fst) ∧ Wr (x.fst.fst.snd.snd.snd.snd.snd.snd.snd.fst = x.fst.fst.snd.snd.snd.snd.snd.snd.snd.fst) ∧ Wr
  (x.fst.fst.snd.snd.snd.snd.snd.snd.snd.snd.fst = x.fst.fst.snd.snd.snd.snd.snd.snd.snd.snd.fst) ∧ Wr (x.fst.snd.fst = x.fst.snd.fst) ∧ Wr (x.fst.snd.snd.fst = x.fst.snd.snd.fst) ∧ Wr (x.fst.snd.snd.snd.fst =
  x.fst.snd.snd.snd.fst) ∧ Wr (x.fst.snd.snd.snd.snd.fst.fst = x.fst.snd.snd.snd.snd.fst.fst) ∧ Wr (x.fst.snd.snd.snd.snd.fst.snd.fst = x.fst.snd.snd.snd.snd.fst.snd.fst) ∧ Wr (x.fst.snd.snd.snd.snd.fst.snd.snd.fst =
  x.fst.snd.snd.snd.snd.fst.snd.snd.fst) ∧ Wr (x.fst.snd.snd.snd.snd.snd.fst = x.fst.snd.snd.snd.snd.snd.fst) ∧ Wr (x.fst.snd.snd.snd.snd.snd.snd.fst = x.fst.snd.snd.snd.snd.snd.snd.fst) ∧ Wr (Bool.false = Bool.false) ∧
  Wr (Bool.false = Bool.false) ∧ Wr ((0 : Int) = (0 : Int)) ∧ Wr ((0 : Int) = (0 : Int)) ∧ Wr ((0 : Int) = (0 : Int)) ∧ Wr ((0 : Int) = (0 : Int)) ∧ Wr ((0 : Int) = (0 : Int)) ∧ Wr ((0 : Int) = (0 : Int)) ∧ Wr ((0 : Int)
  = (0 : Int)) ∧ Wr ((0 : Int) = (0 : Int)) ∧ Wr ((0 : Int) = (0 : Int)) ∧ Wr ((0 : Int) = (0 : Int)) ∧ Wr (Bool.false = Bool.false) ∧ Wr ((0 : Int) = (0 : Int)) ∧ Wr (Bool.false = Bool.false) ∧ Wr (x.fst.fst.fst =
  x.fst.fst.fst) ∧ Wr (x.fst.fst.snd.fst = x.fst.fst.snd.fst) ∧ Wr (x.fst.fst.snd.snd.fst = x.fst.fst.snd.snd.fst) ∧ Wr (x.fst.fst.snd.snd.snd.fst = x.fst.fst.snd.snd.snd.fst) ∧ Wr (x.fst.fst.snd.snd.snd.snd.fst =
  x.fst.fst.snd.snd.snd.snd.fst) ∧ Wr (x.fst.fst.snd.snd.snd.snd.snd.fst = x.fst.fst.snd.snd.snd.snd.snd.fst) ∧ Wr (x.fst.fst.snd.snd.snd.snd.snd.snd.fst = x.fst.fst.snd.snd.snd.snd.snd.snd.fst) ∧ Wr
  (x.fst.fst.snd.snd.snd.snd.snd.snd.snd.fst = x.fst.fst.snd.snd.snd.snd.snd.snd.snd.fst) ∧ Wr (x.fst.fst.snd.snd.snd.snd.snd.snd.snd.snd.fst = x.fst.fst.snd.snd.snd.snd.snd.snd.snd.snd.fst) ∧ Wr (x.fst.snd.fst =
  x.fst.snd.fst) ∧ Wr (x.fst.snd.snd.fst = x.fst.snd.snd.fst) ∧ Wr (x.fst.snd.snd.snd.fst = x.fst.snd.snd.snd.fst) ∧ Wr (x.fst.snd.snd.snd.snd.fst.fst = x.fst.snd.snd.snd.snd.fst.fst) ∧ Wr
  (x.fst.snd.snd.snd.snd.fst.snd.fst = x.fst.snd.snd.snd.snd.fst.snd.fst) ∧ Wr (x.fst.snd.snd.snd.snd.fst.snd.snd.fst = x.fst.snd.snd.snd.snd.fst.snd.snd.fst) ∧ Wr (x.fst.snd.snd.snd.snd.snd.fst =
  x.fst.snd.snd.snd.snd.snd.fst) ∧ Wr (x.fst.snd.snd.snd.snd.snd.snd.fst = x.fst.snd.snd.snd.snd.snd.snd.fst)) ∧ ∀ (x_1 : Int × List (Int × Int × Int × Unit)), Wr (AlI x.fst.snd.snd.snd.fst x.snd.snd.fst x_1.fst x_1.snd)
  → bcase (Decidable.decide (x_1.fst < (↑(List.length x.fst.snd.snd.snd.fst) : Int))) (Wr ((0 : Int) ≤ x_1.fst) ∧ Wr (x_1.fst < (↑(List.length x.fst.snd.snd.snd.fst) : Int)) ∧ Wr (Bool.true = Bool.true) ∧ Wr ((List.length
  x_1.snd + List.length ((List.getD x.fst.snd.snd.snd.fst (Int.toNat x_1.fst) (0 : Int), (-1 : Int), x.snd.snd.fst, ()) :: nilL (Int × Int × Int × Unit))) * (24 : Nat) ≤ (140737488355328 : Nat)) ∧ Wr (AlI
  x.fst.snd.snd.snd.fst x.snd.snd.fst (IntKind.wrap IntKind.i64 (x_1.fst + (1 : Int))) (x_1.snd ++ (List.getD x.fst.snd.snd.snd.fst (Int.toNat x_1.fst) (0 : Int), (-1 : Int), x.snd.snd.fst, ()) :: nilL (Int × Int × Int ×
  Unit))) ∧ Wr (List.length x.fst.snd.snd.snd.fst - Int.toNat (IntKind.wrap IntKind.i64 (x_1.fst + (1 : Int))) < List.length x.fst.snd.snd.snd.fst - Int.toNat x_1.fst) ∧ Wr (IntKind.wrap IntKind.i64 (x_1.fst + (1 : Int))
  = IntKind.wrap IntKind.i64 (x_1.fst + (1 : Int))) ∧ Wr (x.snd.snd.fst = x.snd.snd.fst) ∧ Wr (x.fst.snd.snd.snd.fst = x.fst.snd.snd.snd.fst) ∧ Wr ((↑(List.length x.fst.snd.snd.snd.fst) : Int) = (↑(List.length
  x.fst.snd.snd.snd.fst) : Int)) ∧ Wr (x.fst.fst.fst = x.fst.fst.fst) ∧ Wr (x.fst.fst.snd.fst = x.fst.fst.snd.fst) ∧ Wr (x.fst.fst.snd.snd.fst = x.fst.fst.snd.snd.fst) ∧ Wr (x.fst.fst.snd.snd.snd.fst =
  x.fst.fst.snd.snd.snd.fst) ∧ Wr (x.fst.fst.snd.snd.snd.snd.fst = x.fst.fst.snd.snd.snd.snd.fst) ∧ Wr (x.fst.fst.snd.snd.snd.snd.snd.fst = x.fst.fst.snd.snd.snd.snd.snd.fst) ∧ Wr (x.fst.fst.snd.snd.snd.snd.snd.snd.fst =
  x.fst.fst.snd.snd.snd.snd.snd.snd.fst) ∧ Wr (x.fst.fst.snd.snd.snd.snd.snd.snd.snd.fst = x.fst.fst.snd.snd.snd.snd.snd.snd.snd.fst) ∧ Wr (x.fst.fst.snd.snd.snd.snd.snd.snd.snd.snd.fst =
  x.fst.fst.snd.snd.snd.snd.snd.snd.snd.snd.fst) ∧ Wr (x.fst.snd.fst = x.fst.snd.fst) ∧ Wr (x.fst.snd.snd.fst = x.fst.snd.snd.fst) ∧ Wr (x.fst.snd.snd.snd.fst = x.fst.snd.snd.snd.fst) ∧ Wr ((endF
  x.fst.snd.snd.snd.snd.fst).fst = (endF x.fst.snd.snd.snd.snd.fst).fst) ∧ Wr ((endF x.fst.snd.snd.snd.snd.fst).snd.fst = (endF x.fst.snd.snd.snd.snd.fst).snd.fst) ∧ Wr ((endF x.fst.snd.snd.snd.snd.fst).snd.snd.fst =
  (endF x.fst.snd.snd.snd.snd.fst).snd.snd.fst) ∧ Wr (noteS x.fst.snd.snd.snd.snd.snd.fst = noteS x.fst.snd.snd.snd.snd.snd.fst) ∧ Wr (x.fst.snd.snd.snd.snd.snd.snd.fst = x.fst.snd.snd.snd.snd.snd.snd.fst) ∧ Wr
  (Bool.false = Bool.false) ∧ Wr (Bool.false = Bool.false) ∧ Wr (x.snd.snd.snd.snd.fst = x.snd.snd.snd.snd.fst) ∧ Wr (x.snd.snd.snd.snd.snd.fst = x.snd.snd.snd.snd.snd.fst) ∧ Wr (x_1.snd ++ (List.getD
  x.fst.snd.snd.snd.fst (Int.toNat x_1.fst) (0 : Int), (-1 : Int), x.snd.snd.fst, ()) :: nilL (Int × Int × Int × Unit) = x_1.snd ++ (List.getD x.fst.snd.snd.snd.fst (Int.toNat x_1.fst) (0 : Int), (-1 : Int),
  x.snd.snd.fst, ()) :: nilL (Int × Int × Int × Unit)) ∧ Wr (x.fst.fst.fst = x.fst.fst.fst) ∧ Wr (x.fst.fst.snd.fst = x.fst.fst.snd.fst) ∧ Wr (x.fst.fst.snd.snd.fst = x.fst.fst.snd.snd.fst) ∧ Wr (x.fst.fst.snd.snd.snd.fst
  = x.fst.fst.snd.snd.snd.fst) ∧ Wr (x.fst.fst.snd.snd.snd.snd.fst = x.fst.fst.snd.snd.snd.snd.fst) ∧ Wr (x.fst.fst.snd.snd.snd.snd.snd.fst = x.fst.fst.snd.snd.snd.snd.snd.fst) ∧ Wr (x.fst.fst.snd.snd.snd.snd.snd.snd.fst
  = x.fst.fst.snd.snd.snd.snd.snd.snd.fst) ∧ Wr (x.fst.fst.snd.snd.snd.snd.snd.snd.snd.fst = x.fst.fst.snd.snd.snd.snd.snd.snd.snd.fst) ∧ Wr (x.fst.fst.snd.snd.snd.snd.snd.snd.snd.snd.fst =
  x.fst.fst.snd.snd.snd.snd.snd.snd.snd.snd.fst) ∧ Wr (x.fst.snd.fst = x.fst.snd.fst) ∧ Wr (x.fst.snd.snd.fst = x.fst.snd.snd.fst) ∧ Wr (x.fst.snd.snd.snd.fst = x.fst.snd.snd.snd.fst) ∧ Wr (x.fst.snd.snd.snd.snd.fst.fst =
  x.fst.snd.snd.snd.snd.fst.fst) ∧ Wr (x.fst.snd.snd.snd.snd.fst.snd.fst = x.fst.snd.snd.snd.snd.fst.snd.fst) ∧ Wr (x.fst.snd.snd.snd.snd.fst.snd.snd.fst = x.fst.snd.snd.snd.snd.fst.snd.snd.fst) ∧ Wr
  (x.fst.snd.snd.snd.snd.snd.fst = x.fst.snd.snd.snd.snd.snd.fst) ∧ Wr (x.fst.snd.snd.snd.snd.snd.snd.fst = x.fst.snd.snd.snd.snd.snd.snd.fst) ∧ Wr (Bool.false = Bool.false) ∧ Wr (Bool.false = Bool.false) ∧ Wr ((0 : Int)
  = (0 : Int)) ∧ Wr ((0 : Int) = (0 : Int)) ∧ Wr ((0 : Int) = (0 : Int)) ∧ Wr ((0 : Int) = (0 : Int)) ∧ Wr ((0 : Int) = (0 : Int)) ∧ Wr ((0 : Int) = (0 : Int)) ∧ Wr ((0 : Int) = (0 : Int)) ∧ Wr ((0 : Int) = (0 : Int)) ∧
  Wr ((0 : Int) = (0 : Int)) ∧ Wr ((0 : Int) = (0 : Int)) ∧ Wr (Bool.false = Bool.false) ∧ Wr ((0 : Int) = (0 : Int)) ∧ Wr (Bool.false = Bool.false) ∧ Wr (x.fst.fst.fst = x.fst.fst.fst) ∧ Wr (x.fst.fst.snd.fst =
  x.fst.fst.snd.fst) ∧ Wr (x.fst.fst.snd.snd.fst = x.fst.fst.snd.snd.fst) ∧ Wr (x.fst.fst.snd.snd.snd.fst = x.fst.fst.snd.snd.snd.fst) ∧ Wr (x.fst.fst.snd.snd.snd.snd.fst = x.fst.fst.snd.snd.snd.snd.fst) ∧ Wr
  (x.fst.fst.snd.snd.snd.snd.snd.fst = x.fst.fst.snd.snd.snd.snd.snd.fst) ∧ Wr (x.fst.fst.snd.snd.snd.snd.snd.snd.fst = x.fst.fst.snd.snd.snd.snd.snd.snd.fst) ∧ Wr (x.fst.fst.snd.snd.snd.snd.snd.snd.snd.fst =
  x.fst.fst.snd.snd.snd.snd.snd.snd.snd.fst) ∧ Wr (x.fst.fst.snd.snd.snd.snd.snd.snd.snd.snd.fst = x.fst.fst.snd.snd.snd.snd.snd.snd.snd.snd.fst) ∧ Wr (x.fst.snd.fst = x.fst.snd.fst) ∧ Wr (x.fst.snd.snd.fst =
  x.fst.snd.snd.fst) ∧ Wr (x.fst.snd.snd.snd.fst = x.fst.snd.snd.snd.fst) ∧ Wr (x.fst.snd.snd.snd.snd.fst.fst = x.fst.snd.snd.snd.snd.fst.fst) ∧ Wr (x.fst.snd.snd.snd.snd.fst.snd.fst = x.fst.snd.snd.snd.snd.fst.snd.fst) ∧
  Wr (x.fst.snd.snd.snd.snd.fst.snd.snd.fst = x.fst.snd.snd.snd.snd.fst.snd.snd.fst) ∧ Wr (x.fst.snd.snd.snd.snd.snd.fst = x.fst.snd.snd.snd.snd.snd.fst) ∧ Wr (x.fst.snd.snd.snd.snd.snd.snd.fst =
  x.fst.snd.snd.snd.snd.snd.snd.fst)) (Wr (Bool.true = Bool.true) ∧ Wr ((!x.fst.snd.snd.snd.snd.snd.snd.fst) = Bool.true → Bool.true = Bool.true) ∧ ((x.fst.fst, x.fst.snd.fst, x.fst.snd.snd.fst, nilL Int, partF (endF
  x.fst.snd.snd.snd.snd.fst) (↑(List.length x.fst.snd.snd.snd.fst) : Int), noteS x.fst.snd.snd.snd.snd.snd.fst, x.fst.snd.snd.snd.snd.snd.snd), (x_1.snd, nilL Int, !x.fst.snd.snd.snd.snd.snd.snd.fst && startsF (partF
  (endF x.fst.snd.snd.snd.snd.fst) (↑(List.length x.fst.snd.snd.snd.fst) : Int)), Bool.false || partC (endF x.fst.snd.snd.snd.snd.fst) (↑(List.length x.fst.snd.snd.snd.fst) : Int), ()), ()) = (outB (toldD x.fst x.snd.fst
  x.snd.snd.fst x.snd.snd.snd.snd.fst x.snd.snd.snd.snd.snd.fst), outT (toldD x.fst x.snd.fst x.snd.snd.fst x.snd.snd.snd.snd.fst x.snd.snd.snd.snd.snd.fst), ()))) (Wr ((!x.fst.snd.snd.snd.snd.snd.snd.fst) = Bool.true →
  Bool.true = Bool.true) ∧ ((x.fst.fst, x.fst.snd.fst, x.fst.snd.snd.fst, x.fst.snd.snd.snd.fst, endF x.fst.snd.snd.snd.snd.fst, noteS x.fst.snd.snd.snd.snd.snd.fst, x.fst.snd.snd.snd.snd.snd.snd), (nilL (Int × Int × Int
  × Unit), nilL Int, !x.fst.snd.snd.snd.snd.snd.snd.fst && startsF (endF x.fst.snd.snd.snd.snd.fst), Bool.false, ()), ()) = (outB (toldD x.fst x.snd.fst x.snd.snd.fst x.snd.snd.snd.snd.fst x.snd.snd.snd.snd.snd.fst), outT
  (toldD x.fst x.snd.fst x.snd.snd.fst x.snd.snd.snd.snd.fst x.snd.snd.snd.snd.snd.fst), ()))))) (Wr (List.length (x.snd.fst :: nilL Int) * (8 : Nat) ≤ (140737488355328 : Nat)) ∧ Wr ((!x.fst.snd.snd.snd.snd.snd.snd.fst) =
  Bool.true → Bool.true = Bool.true) ∧ ((x.fst.fst, x.fst.snd.fst, x.fst.snd.snd.fst, x.fst.snd.snd.snd.fst, endF x.fst.snd.snd.snd.snd.fst, noteS x.fst.snd.snd.snd.snd.snd.fst, x.fst.snd.snd.snd.snd.snd.snd), (nilL (Int
  × Int × Int × Unit), x.snd.fst :: nilL Int, !x.fst.snd.snd.snd.snd.snd.snd.fst && startsF (endF x.fst.snd.snd.snd.snd.fst), Bool.false, ()), ()) = (outB (toldD x.fst x.snd.fst x.snd.snd.fst x.snd.snd.snd.snd.fst
  x.snd.snd.snd.snd.snd.fst), outT (toldD x.fst x.snd.fst x.snd.snd.fst x.snd.snd.snd.snd.fst x.snd.snd.snd.snd.snd.fst), ()))) (bcase (Decidable.decide (x.snd.snd.fst = (0 : Int))) (bcase (Decidable.decide
  ((↑(List.length x.fst.snd.snd.snd.fst) : Int) > (0 : Int))) (Wr ((0 : Int) ≤ (0 : Int)) ∧ Wr ((0 : Int) < (↑(List.length x.fst.snd.snd.snd.fst) : Int)) ∧ Wr (Bool.true = Bool.true) ∧ Wr ((0 : Int) ≤ (1 : Int)) ∧ Wr ((1
  : Int) ≤ (↑(List.length x.fst.snd.snd.snd.fst) : Int)) ∧ Wr ((↑(List.length x.fst.snd.snd.snd.fst) : Int) ≤ (↑(List.length x.fst.snd.snd.snd.fst) : Int)) ∧ Wr (Decidable.decide (List.length (List.drop (Int.toNat (1 :
  Int)) (List.take (Int.toNat (↑(List.length x.fst.snd.snd.snd.fst) : Int)) x.fst.snd.snd.snd.fst)) * (8 : Nat) ≤ (140737488355328 : Nat)) = Bool.true) ∧ Wr True ∧ Wr ((List.length x.fst.snd.snd.fst + List.length
  (x.snd.fst :: nilL Int)) * (8 : Nat) ≤ (140737488355328 : Nat)) ∧ Wr ((0 : Nat) < List.length (x.snd.fst :: nilL Int)) ∧ Wr (List.length ((List.getD x.fst.snd.snd.snd.fst (Int.toNat (0 : Int)) (0 : Int), x.snd.fst, (0 :
  Int), ()) :: nilL (Int × Int × Int × Unit)) * (24 : Nat) ≤ (140737488355328 : Nat)) ∧ Wr (Bool.true = Bool.true) ∧ Wr ((!x.fst.snd.snd.snd.snd.snd.snd.fst) = Bool.true → Bool.true = Bool.true) ∧ ((x.fst.fst,
  x.fst.snd.fst, x.fst.snd.snd.fst ++ x.snd.fst :: nilL Int, List.drop (Int.toNat (1 : Int)) (List.take (Int.toNat (↑(List.length x.fst.snd.snd.snd.fst) : Int)) x.fst.snd.snd.snd.fst), partF (endF
  x.fst.snd.snd.snd.snd.fst) (1 : Int), noteS x.fst.snd.snd.snd.snd.snd.fst, x.fst.snd.snd.snd.snd.snd.snd), ((List.getD x.fst.snd.snd.snd.fst (Int.toNat (0 : Int)) (0 : Int), x.snd.fst, (0 : Int), ()) :: nilL (Int × Int
  × Int × Unit), nilL Int, !x.fst.snd.snd.snd.snd.snd.snd.fst && startsF (partF (endF x.fst.snd.snd.snd.snd.fst) (1 : Int)), Bool.false || partC (endF x.fst.snd.snd.snd.snd.fst) (1 : Int), ()), ()) = (outB (toldD x.fst
  x.snd.fst x.snd.snd.fst x.snd.snd.snd.snd.fst x.snd.snd.snd.snd.snd.fst), outT (toldD x.fst x.snd.fst x.snd.snd.fst x.snd.snd.snd.snd.fst x.snd.snd.snd.snd.snd.fst), ())) (bcase (Decidable.decide ((↑(List.length
  x.fst.snd.fst) : Int) < x.fst.fst.snd.fst)) (Wr True ∧ Wr ((List.length x.fst.snd.fst + List.length ((x.snd.fst, x.snd.snd.snd.snd.fst, ()) :: nilL (Int × Int × Unit))) * (16 : Nat) ≤ (140737488355328 : Nat)) ∧ Wr ((0 :
  Nat) < List.length ((x.snd.fst, x.snd.snd.snd.snd.fst, ()) :: nilL (Int × Int × Unit))) ∧ Wr ((!x.fst.snd.snd.snd.snd.snd.snd.fst) = Bool.true → Bool.true = Bool.true) ∧ ((x.fst.fst, x.fst.snd.fst ++ (x.snd.fst,
  x.snd.snd.snd.snd.fst, ()) :: nilL (Int × Int × Unit), x.fst.snd.snd.fst, x.fst.snd.snd.snd.fst, endF x.fst.snd.snd.snd.snd.fst, noteS x.fst.snd.snd.snd.snd.snd.fst, x.fst.snd.snd.snd.snd.snd.snd), (nilL (Int × Int ×
  Int × Unit), nilL Int, !x.fst.snd.snd.snd.snd.snd.snd.fst && startsF (endF x.fst.snd.snd.snd.snd.fst), Bool.false, ()), ()) = (outB (toldD x.fst x.snd.fst x.snd.snd.fst x.snd.snd.snd.snd.fst x.snd.snd.snd.snd.snd.fst),
  outT (toldD x.fst x.snd.fst x.snd.snd.fst x.snd.snd.snd.snd.fst x.snd.snd.snd.snd.snd.fst), ())) (Wr (List.length (x.snd.fst :: nilL Int) * (8 : Nat) ≤ (140737488355328 : Nat)) ∧ Wr ((!x.fst.snd.snd.snd.snd.snd.snd.fst)
  = Bool.true → Bool.true = Bool.true) ∧ ((x.fst.fst, x.fst.snd.fst, x.fst.snd.snd.fst, x.fst.snd.snd.snd.fst, endF x.fst.snd.snd.snd.snd.fst, noteS x.fst.snd.snd.snd.snd.snd.fst, x.fst.snd.snd.snd.snd.snd.snd), (nilL
  (Int × Int × Int × Unit), x.snd.fst :: nilL Int, !x.fst.snd.snd.snd.snd.snd.snd.fst && startsF (endF x.fst.snd.snd.snd.snd.fst), Bool.false, ()), ()) = (outB (toldD x.fst x.snd.fst x.snd.snd.fst x.snd.snd.snd.snd.fst
  x.snd.snd.snd.snd.snd.fst), outT (toldD x.fst x.snd.fst x.snd.snd.fst x.snd.snd.snd.snd.fst x.snd.snd.snd.snd.snd.fst), ())))) (bcase (!Decidable.decide (x.snd.snd.fst = (191 : Int))) ((Wr (AlI x.fst.snd.snd.snd.fst
  x.snd.snd.fst (0 : Int) (nilL (Int × Int × Int × Unit))) ∧ Wr ((0 : Int) = (0 : Int)) ∧ Wr (x.snd.snd.fst = x.snd.snd.fst) ∧ Wr (x.fst.snd.snd.snd.fst = x.fst.snd.snd.snd.fst) ∧ Wr ((↑(List.length x.fst.snd.snd.snd.fst)
  : Int) = (↑(List.length x.fst.snd.snd.snd.fst) : Int)) ∧ Wr (x.fst.fst.fst = x.fst.fst.fst) ∧ Wr (x.fst.fst.snd.fst = x.fst.fst.snd.fst) ∧ Wr (x.fst.fst.snd.snd.fst = x.fst.fst.snd.snd.fst) ∧ Wr
  (x.fst.fst.snd.snd.snd.fst = x.fst.fst.snd.snd.snd.fst) ∧ Wr (x.fst.fst.snd.snd.snd.snd.fst = x.fst.fst.snd.snd.snd.snd.fst) ∧ Wr (x.fst.fst.snd.snd.snd.snd.snd.fst = x.fst.fst.snd.snd.snd.snd.snd.fst) ∧ Wr
  (x.fst.fst.snd.snd.snd.snd.snd.snd.fst = x.fst.fst.snd.snd.snd.snd.snd.snd.fst) ∧ Wr (x.fst.fst.snd.snd.snd.snd.snd.snd.snd.fst = x.fst.fst.snd.snd.snd.snd.snd.snd.snd.fst) ∧ Wr
  (x.fst.fst.snd.snd.snd.snd.snd.snd.snd.snd.fst = x.fst.fst.snd.snd.snd.snd.snd.snd.snd.snd.fst) ∧ Wr (x.fst.snd.fst = x.fst.snd.fst) ∧ Wr (x.fst.snd.snd.fst = x.fst.snd.snd.fst) ∧ Wr (x.fst.snd.snd.snd.fst =
  x.fst.snd.snd.snd.fst) ∧ Wr ((endF x.fst.snd.snd.snd.snd.fst).fst = (endF x.fst.snd.snd.snd.snd.fst).fst) ∧ Wr ((endF x.fst.snd.snd.snd.snd.fst).snd.fst = (endF x.fst.snd.snd.snd.snd.fst).snd.fst) ∧ Wr ((endF
  x.fst.snd.snd.snd.snd.fst).snd.snd.fst = (endF x.fst.snd.snd.snd.snd.fst).snd.snd.fst) ∧ Wr (noteS x.fst.snd.snd.snd.snd.snd.fst = noteS x.fst.snd.snd.snd.snd.snd.fst) ∧ Wr (x.fst.snd.snd.snd.snd.snd.snd.fst =
  x.fst.snd.snd.snd.snd.snd.snd.fst) ∧ Wr (Bool.false = Bool.false) ∧ Wr (Bool.false = Bool.false) ∧ Wr (x.snd.snd.snd.snd.fst = x.snd.snd.snd.snd.fst) ∧ Wr (x.snd.snd.snd.snd.snd.fst = x.snd.snd.snd.snd.snd.fst) ∧ Wr
  (nilL (Int × Int × Int × Unit) = nilL (Int × Int × Int × Unit)) ∧ Wr (x.fst.fst.fst = x.fst.fst.fst) ∧ Wr (x.fst.fst.snd.fst = x.fst.fst.snd.fst) ∧ Wr (x.fst.fst.snd.snd.fst = x.fst.fst.snd.snd.fst) ∧ Wr
  (x.fst.fst.snd.snd.snd.fst = x.fst.fst.snd.snd.snd.fst) ∧ Wr (x.fst.fst.snd.snd.snd.snd.fst = x.fst.fst.snd.snd.snd.snd.fst) ∧ Wr (x.fst.fst.snd.snd.snd.snd.snd.fst = x.fst.fst.snd.snd.snd.snd.snd.fst) ∧ Wr
  (x.fst.fst.snd.snd.snd.snd.snd.snd.fst = x.fst.fst.snd.snd.snd.snd.snd.snd.fst) ∧ Wr (x.fst.fst.snd.snd.snd.snd.snd.snd.snd.fst = x.fst.fst.snd.snd.snd.snd.snd.snd.snd.fst) ∧ Wr
  (x.fst.fst.snd.snd.snd.snd.snd.snd.snd.snd.fst = x.fst.fst.snd.snd.snd.snd.snd.snd.snd.snd.fst) ∧ Wr (x.fst.snd.fst = x.fst.snd.fst) ∧ Wr (x.fst.snd.snd.fst = x.fst.snd.snd.fst) ∧ Wr (x.fst.snd.snd.snd.fst =
  x.fst.snd.snd.snd.fst) ∧ Wr (x.fst.snd.snd.snd.snd.fst.fst = x.fst.snd.snd.snd.snd.fst.fst) ∧ Wr (x.fst.snd.snd.snd.snd.fst.snd.fst = x.fst.snd.snd.snd.snd.fst.snd.fst) ∧ Wr (x.fst.snd.snd.snd.snd.fst.snd.snd.fst =
  x.fst.snd.snd.snd.snd.fst.snd.snd.fst) ∧ Wr (x.fst.snd.snd.snd.snd.snd.fst = x.fst.snd.snd.snd.snd.snd.fst) ∧ Wr (x.fst.snd.snd.snd.snd.snd.snd.fst = x.fst.snd.snd.snd.snd.snd.snd.fst) ∧ Wr (Bool.false = Bool.false) ∧
  Wr (Bool.false = Bool.false) ∧ Wr ((0 : Int) = (0 : Int)) ∧ Wr ((0 : Int) = (0 : Int)) ∧ Wr ((0 : Int) = (0 : Int)) ∧ Wr ((0 : Int) = (0 : Int)) ∧ Wr ((0 : Int) = (0 : Int)) ∧ Wr ((0 : Int) = (0 : Int)) ∧ Wr ((0 : Int)
  = (0 : Int)) ∧ Wr ((0 : Int) = (0 : Int)) ∧ Wr ((0 : Int) = (0 : Int)) ∧ Wr ((0 : Int) = (0 : Int)) ∧ Wr (Bool.false = Bool.false) ∧ Wr ((0 : Int) = (0 : Int)) ∧ Wr (Bool.false = Bool.false) ∧ Wr (x.fst.fst.fst =
  x.fst.fst.fst) ∧ Wr (x.fst.fst.snd.fst = x.fst.fst.snd.fst) ∧ Wr (x.fst.fst.snd.snd.fst = x.fst.fst.snd.snd.fst) ∧ Wr (x.fst.fst.snd.snd.snd.fst = x.fst.fst.snd.snd.snd.fst) ∧ Wr (x.fst.fst.snd.snd.snd.snd.fst =
  x.fst.fst.snd.snd.snd.snd.fst) ∧ Wr (x.fst.fst.snd.snd.snd.snd.snd.fst = x.fst.fst.snd.snd.snd.snd.snd.fst) ∧ Wr (x.fst.fst.snd.snd.snd.snd.snd.snd.fst = x.fst.fst.snd.snd.snd.snd.snd.snd.fst) ∧ Wr
  (x.fst.fst.snd.snd.snd.snd.snd.snd.snd.fst = x.fst.fst.snd.snd.snd.snd.snd.snd.snd.fst) ∧ Wr (x.fst.fst.snd.snd.snd.snd.snd.snd.snd.snd.fst = x.fst.fst.snd.snd.snd.snd.snd.snd.snd.snd.fst) ∧ Wr (x.fst.snd.fst =
  x.fst.snd.fst) ∧ Wr (x.fst.snd.snd.fst = x.fst.snd.snd.fst) ∧ Wr (x.fst.snd.snd.snd.fst = x.fst.snd.snd.snd.fst) ∧ Wr (x.fst.snd.snd.snd.snd.fst.fst = x.fst.snd.snd.snd.snd.fst.fst) ∧ Wr
  (x.fst.snd.snd.snd.snd.fst.snd.fst = x.fst.snd.snd.snd.snd.fst.snd.fst) ∧ Wr (x.fst.snd.snd.snd.snd.fst.snd.snd.fst = x.fst.snd.snd.snd.snd.fst.snd.snd.fst) ∧ Wr (x.fst.snd.snd.snd.snd.snd.fst =
  x.fst.snd.snd.snd.snd.snd.fst) ∧ Wr (x.fst.snd.snd.snd.snd.snd.snd.fst = x.fst.snd.snd.snd.snd.snd.snd.fst)) ∧ ∀ (x_1 : Int × List (Int × Int × Int × Unit)), Wr (AlI x.fst.snd.snd.snd.fst x.snd.snd.fst x_1.fst x_1.snd)
  → bcase (Decidable.decide (x_1.fst < (↑(List.length x.fst.snd.snd.snd.fst) : Int))) (Wr ((0 : Int) ≤ x_1.fst) ∧ Wr (x_1.fst < (↑(List.length x.fst.snd.snd.snd.fst) : Int)) ∧ Wr (Bool.true = Bool.true) ∧ Wr ((List.length
  x_1.snd + List.length ((List.getD x.fst.snd.snd.snd.fst (Int.toNat x_1.fst) (0 : Int), (-1 : Int), x.snd.snd.fst, ()) :: nilL (Int × Int × Int × Unit))) * (24 : Nat) ≤ (140737488355328 : Nat)) ∧ Wr (AlI
  x.fst.snd.snd.snd.fst x.snd.snd.fst (IntKind.wrap IntKind.i64 (x_1.fst + (1 : Int))) (x_1.snd ++ (List.getD x.fst.snd.snd.snd.fst (Int.toNat x_1.fst) (0 : Int), (-1 : Int), x.snd.snd.fst, ()) :: nilL (Int × Int × Int ×
  Unit))) ∧ Wr (List.length x.fst.snd.snd.snd.fst - Int.toNat (IntKind.wrap IntKind.i64 (x_1.fst + (1 : Int))) < List.length x.fst.snd.snd.snd.fst - Int.toNat x_1.fst) ∧ Wr (IntKind.wrap IntKind.i64 (x_1.fst + (1 : Int))
  = IntKind.wrap IntKind.i64 (x_1.fst + (1 : Int))) ∧ Wr (x.snd.snd.fst = x.snd.snd.fst) ∧ Wr (x.fst.snd.snd.snd.fst = x.fst.snd.snd.snd.fst) ∧ Wr ((↑(List.length x.fst.snd.snd.snd.fst) : Int) = (↑(List.length
  x.fst.snd.snd.snd.fst) : Int)) ∧ Wr (x.fst.fst.fst = x.fst.fst.fst) ∧ Wr (x.fst.fst.snd.fst = x.fst.fst.snd.fst) ∧ Wr (x.fst.fst.snd.snd.fst = x.fst.fst.snd.snd.fst) ∧ Wr (x.fst.fst.snd.snd.snd.fst =
  x.fst.fst.snd.snd.snd.fst) ∧ Wr (x.fst.fst.snd.snd.snd.snd.fst = x.fst.fst.snd.snd.snd.snd.fst) ∧ Wr (x.fst.fst.snd.snd.snd.snd.snd.fst = x.fst.fst.snd.snd.snd.snd.snd.fst) ∧ Wr (x.fst.fst.snd.snd.snd.snd.snd.snd.fst =
  x.fst.fst.snd.snd.snd.snd.snd.snd.fst) ∧ Wr (x.fst.fst.snd.snd.snd.snd.snd.snd.snd.fst = x.fst.fst.snd.snd.snd.snd.snd.snd.snd.fst) ∧ Wr (x.fst.fst.snd.snd.snd.snd.snd.snd.snd.snd.fst =
  x.fst.fst.snd.snd.snd.snd.snd.snd.snd.snd.fst) ∧ Wr (x.fst.snd.fst = x.fst.snd.fst) ∧ Wr (x.fst.snd.snd.fst = x.fst.snd.snd.fst) ∧ Wr (x.fst.snd.snd.snd.fst = x.fst.snd.snd.snd.fst) ∧ Wr ((endF
  x.fst.snd.snd.snd.snd.fst).fst = (endF x.fst.snd.snd.snd.snd.fst).fst) ∧ Wr ((endF x.fst.snd.snd.snd.snd.fst).snd.fst = (endF x.fst.snd.snd.snd.snd.fst).snd.fst) ∧ Wr ((endF x.fst.snd.snd.snd.snd.fst).snd.snd.fst =
  (endF x.fst.snd.snd.snd.snd.fst).snd.snd.fst) ∧ Wr (noteS x.fst.snd.snd.snd.snd.snd.fst = noteS x.fst.snd.snd.snd.snd.snd.fst) ∧ Wr (x.fst.snd.snd.snd.snd.snd.snd.fst = x.fst.snd.snd.snd.snd.snd.snd.fst) ∧ Wr
  (Bool.false = Bool.false) ∧ Wr (Bool.false = Bool.false) ∧ Wr (x.snd.snd.snd.snd.fst = x.snd.snd.snd.snd.fst) ∧ Wr (x.snd.snd.snd.snd.snd.fst = x.snd.snd.snd.snd.snd.fst) ∧ Wr (x_1.snd ++ (List.getD
  x.fst.snd.snd.snd.fst (Int.toNat x_1.fst) (0 : Int), (-1 : Int), x.snd.snd.fst, ()) :: nilL (Int × Int × Int × Unit) = x_1.snd ++ (List.getD x.fst.snd.snd.snd.fst (Int.toNat x_1.fst) (0 : Int), (-1 : Int),
  x.snd.snd.fst, ()) :: nilL (Int × Int × Int × Unit)) ∧ Wr (x.fst.fst.fst = x.fst.fst.fst) ∧ Wr (x.fst.fst.snd.fst = x.fst.fst.snd.fst) ∧ Wr (x.fst.fst.snd.snd.fst = x.fst.fst.snd.snd.fst) ∧ Wr (x.fst.fst.snd.snd.snd.fst
  = x.fst.fst.snd.snd.snd.fst) ∧ Wr (x.fst.fst.snd.snd.snd.snd.fst = x.fst.fst.snd.snd.snd.snd.fst) ∧ Wr (x.fst.fst.snd.snd.snd.snd.snd.fst = x.fst.fst.snd.snd.snd.snd.snd.fst) ∧ Wr (x.fst.fst.snd.snd.snd.snd.snd.snd.fst
  = x.fst.fst.snd.snd.snd.snd.snd.snd.fst) ∧ Wr (x.fst.fst.snd.snd.snd.snd.snd.snd.snd.fst = x.fst.fst.snd.snd.snd.snd.snd.snd.snd.fst) ∧ Wr (x.fst.fst.snd.snd.snd.snd.snd.snd.snd.snd.fst =
  x.fst.fst.snd.snd.snd.snd.snd.snd.snd.snd.fst) ∧ Wr (x.fst.snd.fst = x.fst.snd.fst) ∧ Wr (x.fst.snd.snd.fst = x.fst.snd.snd.fst) ∧ Wr (x.fst.snd.snd.snd.fst = x.fst.snd.snd.snd.fst) ∧ Wr (x.fst.snd.snd.snd.snd.fst.fst =
  x.fst.snd.snd.snd.snd.fst.fst) ∧ Wr (x.fst.snd.snd.snd.snd.fst.snd.fst = x.fst.snd.snd.snd.snd.fst.snd.fst) ∧ Wr (x.fst.snd.snd.snd.snd.fst.snd.snd.fst = x.fst.snd.snd.snd.snd.fst.snd.snd.fst) ∧ Wr
  (x.fst.snd.snd.snd.snd.snd.fst = x.fst.snd.snd.snd.snd.snd.fst) ∧ Wr (x.fst.snd.snd.snd.snd.snd.snd.fst = x.fst.snd.snd.snd.snd.snd.snd.fst) ∧ Wr (Bool.false = Bool.false) ∧ Wr (Bool.false = Bool.false) ∧ Wr ((0 : Int)
  = (0 : Int)) ∧ Wr ((0 : Int) = (0 : Int)) ∧ Wr ((0 : Int) = (0 : Int)) ∧ Wr ((0 : Int) = (0 : Int)) ∧ Wr ((0 : Int) = (0 : Int)) ∧ Wr ((0 : Int) = (0 : Int)) ∧ Wr ((0 : Int) = (0 : Int)) ∧ Wr ((0 : Int) = (0 : Int)) ∧
  Wr ((0 : Int) = (0 : Int)) ∧ Wr ((0 : Int) = (0 : Int)) ∧ Wr (Bool.false = Bool.false) ∧ Wr ((0 : Int) = (0 : Int)) ∧ Wr (Bool.false = Bool.false) ∧ Wr (x.fst.fst.fst = x.fst.fst.fst) ∧ Wr (x.fst.fst.snd.fst =
  x.fst.fst.snd.fst) ∧ Wr (x.fst.fst.snd.snd.fst = x.fst.fst.snd.snd.fst) ∧ Wr (x.fst.fst.snd.snd.snd.fst = x.fst.fst.snd.snd.snd.fst) ∧ Wr (x.fst.fst.snd.snd.snd.snd.fst = x.fst.fst.snd.snd.snd.snd.fst) ∧ Wr
  (x.fst.fst.snd.snd.snd.snd.snd.fst = x.fst.fst.snd.snd.snd.snd.snd.fst) ∧ Wr (x.fst.fst.snd.snd.snd.snd.snd.snd.fst = x.fst.fst.snd.snd.snd.snd.snd.snd.fst) ∧ Wr (x.fst.fst.snd.snd.snd.snd.snd.snd.snd.fst =
  x.fst.fst.snd.snd.snd.snd.snd.snd.snd.fst) ∧ Wr (x.fst.fst.snd.snd.snd.snd.snd.snd.snd.snd.fst = x.fst.fst.snd.snd.snd.snd.snd.snd.snd.snd.fst) ∧ Wr (x.fst.snd.fst = x.fst.snd.fst) ∧ Wr (x.fst.snd.snd.fst =
  x.fst.snd.snd.fst) ∧ Wr (x.fst.snd.snd.snd.fst = x.fst.snd.snd.snd.fst) ∧ Wr (x.fst.snd.snd.snd.snd.fst.fst = x.fst.snd.snd.snd.snd.fst.fst) ∧ Wr (x.fst.snd.snd.snd.snd.fst.snd.fst = x.fst.snd.snd.snd.snd.fst.snd.fst) ∧
  Wr (x.fst.snd.snd.snd.snd.fst.snd.snd.fst = x.fst.snd.snd.snd.snd.fst.snd.snd.fst) ∧ Wr (x.fst.snd.snd.snd.snd.snd.fst = x.fst.snd.snd.snd.snd.snd.fst) ∧ Wr (x.fst.snd.snd.snd.snd.snd.snd.fst =
  x.fst.snd.snd.snd.snd.snd.snd.fst)) (Wr (Bool.true = Bool.true) ∧ Wr ((!x.fst.snd.snd.snd.snd.snd.snd.fst) = Bool.true → Bool.true = Bool.true) ∧ ((x.fst.fst, x.fst.snd.fst, x.fst.snd.snd.fst, nilL Int, partF (endF
  x.fst.snd.snd.snd.snd.fst) (↑(List.length x.fst.snd.snd.snd.fst) : Int), noteS x.fst.snd.snd.snd.snd.snd.fst, x.fst.snd.snd.snd.snd.snd.snd), (x_1.snd, nilL Int, !x.fst.snd.snd.snd.snd.snd.snd.fst && startsF (partF
  (endF x.fst.snd.snd.snd.snd.fst) (↑(List.length x.fst.snd.snd.snd.fst) : Int)), Bool.false || partC (endF x.fst.snd.snd.snd.snd.fst) (↑(List.length x.fst.snd.snd.snd.fst) : Int), ()), ()) = (outB (toldD x.fst x.snd.fst
  x.snd.snd.fst x.snd.snd.snd.snd.fst x.snd.snd.snd.snd.snd.fst), outT (toldD x.fst x.snd.fst x.snd.snd.fst x.snd.snd.snd.snd.fst x.snd.snd.snd.snd.snd.fst), ()))) (Wr ((!x.fst.snd.snd.snd.snd.snd.snd.fst) = Bool.true →
  Bool.true = Bool.true) ∧ ((x.fst.fst, x.fst.snd.fst, x.fst.snd.snd.fst, x.fst.snd.snd.snd.fst, endF x.fst.snd.snd.snd.snd.fst, noteS x.fst.snd.snd.snd.snd.snd.fst, x.fst.snd.snd.snd.snd.snd.snd), (nilL (Int × Int × Int
  × Unit), nilL Int, !x.fst.snd.snd.snd.snd.snd.snd.fst && startsF (endF x.fst.snd.snd.snd.snd.fst), Bool.false, ()), ()) = (outB (toldD x.fst x.snd.fst x.snd.snd.fst x.snd.snd.snd.snd.fst x.snd.snd.snd.snd.snd.fst), outT
  (toldD x.fst x.snd.fst x.snd.snd.fst x.snd.snd.snd.snd.fst x.snd.snd.snd.snd.snd.fst), ()))))) := by kernel_rfl
theorem v14_eq : vcFn g14 300 Try.f14 cClose = ( ∀ (x : ((Int × Int × Int × Int × Int × Int × Int × Int × Int × Unit) × List (Int × Int × Unit) × List Int × List Int × (Int × Bool × Int × Unit) × List ((Int × (Int × Int × Int × Int × Int × Int × Int × Int × Unit) × Int
  × Unit) × Int × Unit) × Bool × Unit) × Int × Unit), Wr (szB x.fst = Bool.true) → bcase x.fst.snd.snd.snd.snd.snd.snd.fst (Wr (List.length ((x.snd.fst, (-1 : Int), (240 : Int), ()) :: nilL (Int × Int × Int × Unit)) * (24
  : Nat) ≤ (140737488355328 : Nat)) ∧ Wr ((!x.fst.snd.snd.snd.snd.snd.snd.fst) = Bool.true → Bool.true = Bool.true) ∧ (x.fst, ((x.snd.fst, (-1 : Int), (240 : Int), ()) :: nilL (Int × Int × Int × Unit), nilL Int,
  !x.fst.snd.snd.snd.snd.snd.snd.fst && startsF x.fst.snd.snd.snd.snd.fst, Bool.false, ()), ()) = (outB (closeD x.fst x.snd.fst), outT (closeD x.fst x.snd.fst), ())) ((Wr (AlI x.fst.snd.snd.snd.fst (240 : Int) (0 : Int)
  (nilL (Int × Int × Int × Unit))) ∧ Wr ((0 : Int) = (0 : Int)) ∧ Wr ((240 : Int) = (240 : Int)) ∧ Wr (x.fst.snd.snd.snd.fst = x.fst.snd.snd.snd.fst) ∧ Wr ((↑(List.length x.fst.snd.snd.snd.fst) : Int) = (↑(List.length
  x.fst.snd.snd.snd.fst) : Int)) ∧ Wr (x.fst.fst.fst = x.fst.fst.fst) ∧ Wr (x.fst.fst.snd.fst = x.fst.fst.snd.fst) ∧ Wr (x.fst.fst.snd.snd.fst = x.fst.fst.snd.snd.fst) ∧ Wr (x.fst.fst.snd.snd.snd.fst =
  x.fst.fst.snd.snd.snd.fst) ∧ Wr (x.fst.fst.snd.snd.snd.snd.fst = x.fst.fst.snd.snd.snd.snd.fst) ∧ Wr (x.fst.fst.snd.snd.snd.snd.snd.fst = x.fst.fst.snd.snd.snd.snd.snd.fst) ∧ Wr (x.fst.fst.snd.snd.snd.snd.snd.snd.fst =
  x.fst.fst.snd.snd.snd.snd.snd.snd.fst) ∧ Wr (x.fst.fst.snd.snd.snd.snd.snd.snd.snd.fst = x.fst.fst.snd.snd.snd.snd.snd.snd.snd.fst) ∧ Wr (x.fst.fst.snd.snd.snd.snd.snd.snd.snd.snd.fst =
  x.fst.fst.snd.snd.snd.snd.snd.snd.snd.snd.fst) ∧ Wr (x.fst.snd.fst = x.fst.snd.fst) ∧ Wr (x.fst.snd.snd.fst = x.fst.snd.snd.fst) ∧ Wr (x.fst.snd.snd.snd.fst = x.fst.snd.snd.snd.fst) ∧ Wr (x.fst.snd.snd.snd.snd.fst.fst =
  x.fst.snd.snd.snd.snd.fst.fst) ∧ Wr (x.fst.snd.snd.snd.snd.fst.snd.fst = x.fst.snd.snd.snd.snd.fst.snd.fst) ∧ Wr (x.fst.snd.snd.snd.snd.fst.snd.snd.fst = x.fst.snd.snd.snd.snd.fst.snd.snd.fst) ∧ Wr
  (x.fst.snd.snd.snd.snd.snd.fst = x.fst.snd.snd.snd.snd.snd.fst) ∧ Wr (x.fst.snd.snd.snd.snd.snd.snd.fst = x.fst.snd.snd.snd.snd.snd.snd.fst) ∧ Wr (Bool.false = Bool.false) ∧ Wr (Bool.false = Bool.false) ∧ Wr ((0 : Int)
  = (0 : Int)) ∧ Wr (nilL (Int × Int × Int × Unit) = nilL (Int × Int × Int × Unit)) ∧ Wr (x.fst.fst.fst = x.fst.fst.fst) ∧ Wr (x.fst.fst.snd.fst = x.fst.fst.snd.fst) ∧ Wr (x.fst.fst.snd.snd.fst = x.fst.fst.snd.snd.fst) ∧
  Wr (x.fst.fst.snd.snd.snd.fst = x.fst.fst.snd.snd.snd.fst) ∧ Wr (x.fst.fst.snd.snd.snd.snd.fst = x.fst.fst.snd.snd.snd.snd.fst) ∧ Wr (x.fst.fst.snd.snd.snd.snd.snd.fst = x.fst.fst.snd.snd.snd.snd.snd.fst) ∧ Wr
  (x.fst.fst.snd.snd.snd.snd.snd.snd.fst = x.fst.fst.snd.snd.snd.snd.snd.snd.fst) ∧ Wr (x.fst.fst.snd.snd.snd.snd.snd.snd.snd.fst = x.fst.fst.snd.snd.snd.snd.snd.snd.snd.fst) ∧ Wr
  (x.fst.fst.snd.snd.snd.snd.snd.snd.snd.snd.fst = x.fst.fst.snd.snd.snd.snd.snd.snd.snd.snd.fst) ∧ Wr (x.fst.snd.fst = x.fst.snd.fst) ∧ Wr (x.fst.snd.snd.fst = x.fst.snd.snd.fst) ∧ Wr (x.fst.snd.snd.snd.fst =
  x.fst.snd.snd.snd.fst) ∧ Wr (x.fst.snd.snd.snd.snd.fst.fst = x.fst.snd.snd.snd.snd.fst.fst) ∧ Wr (x.fst.snd.snd.snd.snd.fst.snd.fst = x.fst.snd.snd.snd.snd.fst.snd.fst) ∧ Wr (x.fst.snd.snd.snd.snd.fst.snd.snd.fst =
  x.fst.snd.snd.snd.snd.fst.snd.snd.fst) ∧ Wr (x.fst.snd.snd.snd.snd.snd.fst = x.fst.snd.snd.snd.snd.snd.fst) ∧ Wr (x.fst.snd.snd.snd.snd.snd.snd.fst = x.fst.snd.snd.snd.snd.snd.snd.fst) ∧ Wr (Bool.false = Bool.false) ∧
  Wr (Bool.false = Bool.false) ∧ Wr ((0 : Int) = (0 : Int)) ∧ Wr ((0 : Int) = (0 : Int)) ∧ Wr ((0 : Int) = (0 : Int)) ∧ Wr ((0 : Int) = (0 : Int)) ∧ Wr ((0 : Int) = (0 : Int)) ∧ Wr ((0 : Int) = (0 : Int)) ∧ Wr ((0 : Int)
  = (0 : Int)) ∧ Wr ((0 : Int) = (0 : Int)) ∧ Wr ((0 : Int) = (0 : Int)) ∧ Wr ((0 : Int) = (0 : Int)) ∧ Wr (Bool.false = Bool.false) ∧ Wr ((0 : Int) = (0 : Int)) ∧ Wr (Bool.false = Bool.false) ∧ Wr (x.fst.fst.fst =
  x.fst.fst.fst) ∧ Wr (x.fst.fst.snd.fst = x.fst.fst.snd.fst) ∧ Wr (x.fst.fst.snd.snd.fst = x.fst.fst.snd.snd.fst) ∧ Wr (x.fst.fst.snd.snd.snd.fst = x.fst.fst.snd.snd.snd.fst) ∧ Wr (x.fst.fst.snd.snd.snd.snd.fst =
  x.fst.fst.snd.snd.snd.snd.fst) ∧ Wr (x.fst.fst.snd.snd.snd.snd.snd.fst = x.fst.fst.snd.snd.snd.snd.snd.fst) ∧ Wr (x.fst.fst.snd.snd.snd.snd.snd.snd.fst = x.fst.fst.snd.snd.snd.snd.snd.snd.fst) ∧ Wr
  (x.fst.fst.snd.snd.snd.snd.snd.snd.snd.fst = x.fst.fst.snd.snd.snd.snd.snd.snd.snd.fst) ∧ Wr (x.fst.fst.snd.snd.snd.snd.snd.snd.snd.snd.fst = x.fst.fst.snd.snd.snd.snd.snd.snd.snd.snd.fst) ∧ Wr (x.fst.snd.fst =
  x.fst.snd.fst) ∧ Wr (x.fst.snd.snd.fst = x.fst.snd.snd.fst) ∧ Wr (x.fst.snd.snd.snd.fst = x.fst.snd.snd.snd.fst) ∧ Wr (x.fst.snd.snd.snd.snd.fst.fst = x.fst.snd.snd.snd.snd.fst.fst) ∧ Wr
  (x.fst.snd.snd.snd.snd.fst.snd.fst = x.fst.snd.snd.snd.snd.fst.snd.fst) ∧ Wr (x.fst.snd.snd.snd.snd.fst.snd.snd.fst = x.fst.snd.snd.snd.snd.fst.snd.snd.fst) ∧ Wr (x.fst.snd.snd.snd.snd.snd.fst =
  x.fst.snd.snd.snd.snd.snd.fst) ∧ Wr (x.fst.snd.snd.snd.snd.snd.snd.fst = x.fst.snd.snd.snd.snd.snd.snd.fst)) ∧ ∀ (x_1 : Int × List (Int × Int × Int × Unit)), Wr (AlI x.fst.snd.snd.snd.fst (240 : Int) x_1.fst x_1.snd) →
  bcase (Decidable.decide (x_1.fst < (↑(List.length x.fst.snd.snd.snd.fst) : Int))) (Wr ((0 : Int) ≤ x_1.fst) ∧ Wr (x_1.fst < (↑(List.length x.fst.snd.snd.snd.fst) : Int)) ∧ Wr (Bool.true = Bool.true) ∧ Wr ((List.length
  x_1.snd + List.length ((List.getD x.fst.snd.snd.snd.fst (Int.toNat x_1.fst) (0 : Int), (-1 : Int), (240 : Int), ()) :: nilL (Int × Int × Int × Unit))) * (24 : Nat) ≤ (140737488355328 : Nat)) ∧ Wr (AlI
  x.fst.snd.snd.snd.fst (240 : Int) (IntKind.wrap IntKind.i64 (x_1.fst + (1 : Int))) (x_1.snd ++ (List.getD x.fst.snd.snd.snd.fst (Int.toNat x_1.fst) (0 : Int), (-1 : Int), (240 : Int), ()) :: nilL (Int × Int × Int ×
  Unit))) ∧ Wr (List.length x.fst.snd.snd.snd.fst - Int.toNat (IntKind.wrap IntKind.i64 (x_1.fst + (1 : Int))) < List.length x.fst.snd.snd.snd.fst - Int.toNat x_1.fst) ∧ Wr (IntKind.wrap IntKind.i64 (x_1.fst + (1 : Int))
  = IntKind.wrap IntKind.i64 (x_1.fst + (1 : Int))) ∧ Wr ((240 : Int) = (240 : Int)) ∧ Wr (x.fst.snd.snd.snd.fst = x.fst.snd.snd.snd.fst) ∧ Wr ((↑(List.length x.fst.snd.snd.snd.fst) : Int) = (↑(List.length
  x.fst.snd.snd.snd.fst) : Int)) ∧ Wr (x.fst.fst.fst = x.fst.fst.fst) ∧ Wr (x.fst.fst.snd.fst = x.fst.fst.snd.fst) ∧ Wr (x.fst.fst.snd.snd.fst = x.fst.fst.snd.snd.fst) ∧ Wr (x.fst.fst.snd.snd.snd.fst =
  x.fst.fst.snd.snd.snd.fst) ∧ Wr (x.fst.fst.snd.snd.snd.snd.fst = x.fst.fst.snd.snd.snd.snd.fst) ∧ Wr (x.fst.fst.snd.snd.snd.snd.snd.fst = x.fst.fst.snd.snd.snd.snd.snd.fst) ∧ Wr (x.fst.fst.snd.snd.snd.snd.snd.snd.fst =
  x.fst.fst.snd.snd.snd.snd.snd.snd.fst) ∧ Wr (x.fst.fst.snd.snd.snd.snd.snd.snd.snd.fst = x.fst.fst.snd.snd.snd.snd.snd.snd.snd.fst) ∧ Wr (x.fst.fst.snd.snd.snd.snd.snd.snd.snd.snd.fst =
  x.fst.fst.snd.snd.snd.snd.snd.snd.snd.snd.fst) ∧ Wr (x.fst.snd.fst = x.fst.snd.fst) ∧ Wr (x.fst.snd.snd.fst = x.fst.snd.snd.fst) ∧ Wr (x.fst.snd.snd.snd.fst = x.fst.snd.snd.snd.fst) ∧ Wr (x.fst.snd.snd.snd.snd.fst.fst =
  x.fst.snd.snd.snd.snd.fst.fst) ∧ Wr (x.fst.snd.snd.snd.snd.fst.snd.fst = x.fst.snd.snd.snd.snd.fst.snd.fst) ∧ Wr (x.fst.snd.snd.snd.snd.fst.snd.snd.fst = x.fst.snd.snd.snd.snd.fst.snd.snd.fst) ∧ Wr
  (x.fst.snd.snd.snd.snd.snd.fst = x.fst.snd.snd.snd.snd.snd.fst) ∧ Wr (x.fst.snd.snd.snd.snd.snd.snd.fst = x.fst.snd.snd.snd.snd.snd.snd.fst) ∧ Wr (Bool.false = Bool.false) ∧ Wr (Bool.false = Bool.false) ∧ Wr ((0 : Int)
  = (0 : Int)) ∧ Wr (x_1.snd ++ (List.getD x.fst.snd.snd.snd.fst (Int.toNat x_1.fst) (0 : Int), (-1 : Int), (240 : Int), ()) :: nilL (Int × Int × Int × Unit) = x_1.snd ++ (List.getD x.fst.snd.snd.snd.fst (Int.toNat
  x_1.fst) (0 : Int), (-1 : Int), (240 : Int), ()) :: nilL (Int × Int × Int × Unit)) ∧ Wr (x.fst.fst.fst = x.fst.fst.fst) ∧ Wr (x.fst.fst.snd.fst = x.fst.fst.snd.fst) ∧ Wr (x.fst.fst.snd.snd.fst = x.fst.fst.snd.snd.fst) ∧
  Wr (x.fst.fst.snd.snd.snd.fst = x.fst.fst.snd.snd.snd.fst) ∧ Wr (x.fst.fst.snd.snd.snd.snd.fst = x.fst.fst.snd.snd.snd.snd.fst) ∧ Wr (x.fst.fst.snd.snd.snd.snd.snd.fst = x.fst.fst.snd.snd.snd.snd.snd.fst) ∧ Wr
  (x.fst.fst.snd.snd.snd.snd.snd.snd.fst = x.fst.fst.snd.snd.snd.snd.snd.snd.fst) ∧ Wr (x.fst.fst.snd.snd.snd.snd.snd.snd.snd.fst = x.fst.fst.snd.snd.snd.snd.snd.snd.snd.fst) ∧ Wr
  (x.fst.fst.snd.snd.snd.snd.snd.snd.snd.snd.fst = x.fst.fst.snd.snd.snd.snd.snd.snd.snd.snd.fst) ∧ Wr (x.fst.snd.fst = x.fst.snd.fst) ∧ Wr (x.fst.snd.snd.fst = x.fst.snd.snd.fst) ∧ Wr (x.fst.snd.snd.snd.fst =
  x.fst.snd.snd.snd.fst) ∧ Wr (x.fst.snd.snd.snd.snd.fst.fst = x.fst.snd.snd.snd.snd.fst.fst) ∧ Wr (x.fst.snd.snd.snd.snd.fst.snd.fst = x.fst.snd.snd.snd.snd.fst.snd.fst) ∧ Wr (x.fst.snd.snd.snd.snd.fst.snd.snd.fst =
  x.fst.snd.snd.snd.snd.fst.snd.snd.fst) ∧ Wr (x.fst.snd.snd.snd.snd.snd.fst = x.fst.snd.snd.snd.snd.snd.fst) ∧ Wr (x.fst.snd.snd.snd.snd.snd.snd.fst = x.fst.snd.snd.snd.snd.snd.snd.fst) ∧ Wr (Bool.false = Bool.false) ∧
  Wr (Bool.false = Bool.false) ∧ Wr ((0 : Int) = (0 : Int)) ∧ Wr ((0 : Int) = (0 : Int)) ∧ Wr ((0 : Int) = (0 : Int)) ∧ Wr ((0 : Int) = (0 : Int)) ∧ Wr ((0 : Int) = (0 : Int)) ∧ Wr ((0 : Int) = (0 : Int)) ∧ Wr ((0 : Int)
  = (0 : Int)) ∧ Wr ((0 : Int) = (0 : Int)) ∧ Wr ((0 : Int) = (0 : Int)) ∧ Wr ((0 : Int) = (0 : Int)) ∧ Wr (Bool.false = Bool.false) ∧ Wr ((0 : Int) = (0 : Int)) ∧ Wr (Bool.false = Bool.false) ∧ Wr (x.fst.fst.fst =
  x.fst.fst.fst) ∧ Wr (x.fst.fst.snd.fst = x.fst.fst.snd.fst) ∧ Wr (x.fst.fst.snd.snd.fst = x.fst.fst.snd.snd.fst) ∧ Wr (x.fst.fst.snd.snd.snd.fst = x.fst.fst.snd.snd.snd.fst) ∧ Wr (x.fst.fst.snd.snd.snd.snd.fst =
  x.fst.fst.snd.snd.snd.snd.fst) ∧ Wr (x.fst.fst.snd.snd.snd.snd.snd.fst = x.fst.fst.snd.snd.snd.snd.snd.fst) ∧ Wr (x.fst.fst.snd.snd.snd.snd.snd.snd.fst = x.fst.fst.snd.snd.snd.snd.snd.snd.fst) ∧ Wr
  (x.fst.fst.snd.snd.snd.snd.snd.snd.snd.fst = x.fst.fst.snd.snd.snd.snd.snd.snd.snd.fst) ∧ Wr (x.fst.fst.snd.snd.snd.snd.snd.snd.snd.snd.fst = x.fst.fst.snd.snd.snd.snd.snd.snd.snd.snd.fst) ∧ Wr (x.fst.snd.fst =
  x.fst.snd.fst) ∧ Wr (x.fst.snd.snd.fst = x.fst.snd.snd.fst) ∧ Wr (x.fst.snd.snd.snd.fst = x.fst.snd.snd.snd.fst) ∧ Wr (x.fst.snd.snd.snd.snd.fst.fst = x.fst.snd.snd.snd.snd.fst.fst) ∧ Wr
  (x.fst.snd.snd.snd.snd.fst.snd.fst = x.fst.snd.snd.snd.snd.fst.snd.fst) ∧ Wr (x.fst.snd.snd.snd.snd.fst.snd.snd.fst = x.fst.snd.snd.snd.snd.fst.snd.snd.fst) ∧ Wr (x.fst.snd.snd.snd.snd.snd.fst =
  x.fst.snd.snd.snd.snd.snd.fst) ∧ Wr (x.fst.snd.snd.snd.snd.snd.snd.fst = x.fst.snd.snd.snd.snd.snd.snd.fst)) (Wr (Bool.true = Bool.true) ∧ Wr (szB (x.fst.fst, x.fst.snd.fst, x.fst.snd.snd.fst, nilL Int, partF
  x.fst.snd.snd.snd.snd.fst (↑(List.length x.fst.snd.snd.snd.fst) : Int), x.fst.snd.snd.snd.snd.snd) = Bool.true) ∧ Wr (List.length (ownsL (x.fst.fst, x.fst.snd.fst, x.fst.snd.snd.fst, nilL Int, partF
  x.fst.snd.snd.snd.snd.fst (↑(List.length x.fst.snd.snd.snd.fst) : Int), x.fst.snd.snd.snd.snd.snd)) * (8 : Nat) ≤ (140737488355328 : Nat)) ∧ Wr ((List.length x_1.snd + List.length ((x.snd.fst, (-1 : Int), (0 : Int), ())
  :: nilL (Int × Int × Int × Unit))) * (24 : Nat) ≤ (140737488355328 : Nat)) ∧ Wr ((!Bool.true) = Bool.true → Bool.true = Bool.true) ∧ ((x.fst.fst, nilL (Int × Int × Unit), nilL Int, nilL Int, partF
  x.fst.snd.snd.snd.snd.fst (↑(List.length x.fst.snd.snd.snd.fst) : Int), x.fst.snd.snd.snd.snd.snd.fst, Bool.true, ()), (x_1.snd ++ (x.snd.fst, (-1 : Int), (0 : Int), ()) :: nilL (Int × Int × Int × Unit), ownsL
  (x.fst.fst, x.fst.snd.fst, x.fst.snd.snd.fst, nilL Int, partF x.fst.snd.snd.snd.snd.fst (↑(List.length x.fst.snd.snd.snd.fst) : Int), x.fst.snd.snd.snd.snd.snd), !Bool.true && startsF (partF x.fst.snd.snd.snd.snd.fst
  (↑(List.length x.fst.snd.snd.snd.fst) : Int)), Bool.false || partC x.fst.snd.snd.snd.snd.fst (↑(List.length x.fst.snd.snd.snd.fst) : Int), ()), ()) = (outB (closeD x.fst x.snd.fst), outT (closeD x.fst x.snd.fst), ())))) := by kernel_rfl
end Go.Proofs.Ytdkcgcgefgeooaa.Bk
set_option linter.all false
namespace Go.Proofs.Ytdkcgcgefgeooaa.Bk
open Go Go.Eng Go.RowKit
set_option maxRecDepth 100000
set_option maxHeartbeats 16000000
theorem AlI.zero (l : List Int) (e : Int) : AlI l e 0 [] := ⟨by omega, by omega, rfl⟩
theorem AlI.succ {l : List Int} {e i : Int} {o : List Rp} (h : AlI l e i o) (hl : l.length ≤ 1000000) (hi : i < l.length) :
    AlI l e (IntKind.wrap .i64 (i + 1)) (o ++ [(l.getD i.toNat 0, -1, e, ())]) ∧ l.length - (IntKind.wrap .i64 (i + 1)).toNat < l.length - i.toNat := by
  have h0 := h.i0
  have ew : IntKind.wrap .i64 (i + 1) = i + 1 := wrap_id (by omega) (by omega)
  rw [ew]
  refine ⟨⟨by omega, by omega, ?_⟩, by omega⟩
  rw [take_succ l i 0 h0 hi, failL, List.map_append, h.a]
  rfl
theorem AlI.len {l : List Int} {e i : Int} {o : List Rp} (h : AlI l e i o) : o.length ≤ l.length := by rw [h.a, failL, List.length_map, List.length_take]; omega
theorem AlI.done {l : List Int} {e i : Int} {o : List Rp} (h : AlI l e i o) (hi : ¬ i < l.length) : o = failL l e := by
  rw [h.a, List.take_of_length_le (by have := h.i0; omega)]
theorem v17 : Vc g17 300 Try.f17 cTold := by
  constructor
  rw [v17_eq]
  simp only [Wr_iff, bcase_iff, true_and, and_true, decide_eq_true_eq, decide_eq_false_iff_not, Bool.and_eq_true, Bool.and_eq_false_iff, Bool.or_eq_true, Bool.or_eq_false_iff, Bool.not_eq_true', Bool.not_eq_false', Option.map_some, Option.getD_some, Option.isSome_some, Option.isSome_map, imp_self, nilL, noneO]
  rintro ⟨⟨cf, id, le, wa, fl, sc, cl, ⟨⟩⟩, sock, er, bad, now, dead, ⟨⟩⟩ hb
  dsimp only at *
  obtain ⟨⟨hs, hd⟩, hbad⟩ := hb
  rw [szB_iff] at hs
  dsimp only at hs
  simp only [szI, decide_eq_true_eq] at hd
  refine ⟨⟨by omega, hbad⟩, ?_⟩
  refine ⟨fun h0 => ⟨fun hc => ⟨fun hh => ⟨by simp, fun _ => trivial, ?_⟩, fun hh => ⟨fun _ => ⟨fun hw => ?_, fun hw => ⟨fun hcp => ⟨by simp; omega, by simp, fun _ => trivial, ?_⟩, fun hcp => ⟨by simp, fun _ => trivial, ?_⟩⟩⟩, fun hn => absurd h0 hn⟩⟩, fun hc => ⟨by simp, fun _ => trivial, ?_⟩⟩, fun h0 => ⟨fun hz => absurd hz h0, fun _ => ⟨fun h1 => ⟨AlI.zero _ _, fun ⟨k, o⟩ hu => ⟨fun hi => ⟨hu.i0, hi, ?_, hu.succ hs.2.2.1 hi⟩, fun hi => ⟨fun _ => trivial, ?_⟩⟩⟩, fun h1 => ⟨fun _ => trivial, ?_⟩⟩⟩⟩
  · subst h0; subst hc
    have hh2 : hasN dead sock = true := hh.resolve_left (by decide)
    have e : toldD (cf, id, le, wa, fl, sc, false, ()) sock 0 now dead = (mkB cf id le wa (endF fl) (noteS sc) false, [], [sock], false) := by unfold toldD; dsimp only; rw [hh2]; rfl
    rw [e]; rfl
  · subst h0; subst hc
    have hh2 : hasN dead sock = false := hh.resolve_left (by decide)
    have e : toldD (cf, id, le, wa, fl, sc, false, ()) sock 0 now dead = fileD (mkB cf id le wa (endF fl) (noteS sc) false) [] [] sock now := by unfold toldD; dsimp only; rw [hh2]; rfl
    rw [e]
    cases wa with
    | nil => exact absurd hw (by simp)
    | cons w ws =>
      simp only [List.length_cons] at hs hw ⊢
      refine ⟨by omega, by omega, by omega, by omega, by omega, by simp; omega, by simp; omega, by simp, by simp, fun _ => trivial, ?_⟩
      rw [fileW]
      simp [outB, outT, endsB, mkB]
  · subst h0; subst hc
    have hh2 : hasN dead sock = false := hh.resolve_left (by decide)
    have e : toldD (cf, id, le, wa, fl, sc, false, ()) sock 0 now dead = fileD (mkB cf id le wa (endF fl) (noteS sc) false) [] [] sock now := by unfold toldD; dsimp only; rw [hh2]; rfl
    rw [e]
    have hw0 : wa = [] := List.length_eq_zero_iff.1 (by omega)
    subst hw0
    rw [fileI hcp]; rfl
  · subst h0; subst hc
    have hh2 : hasN dead sock = false := hh.resolve_left (by decide)
    have e : toldD (cf, id, le, wa, fl, sc, false, ()) sock 0 now dead = fileD (mkB cf id le wa (endF fl) (noteS sc) false) [] [] sock now := by unfold toldD; dsimp only; rw [hh2]; rfl
    rw [e]
    have hw0 : wa = [] := List.length_eq_zero_iff.1 (by omega)
    subst hw0
    rw [fileS hcp]; rfl
  · subst h0; subst hc
    have e : toldD (cf, id, le, wa, fl, sc, true, ()) sock 0 now dead = (mkB cf id le wa (endF fl) (noteS sc) true, [], [sock], false) := by unfold toldD; dsimp only; rw [Bool.true_or]; rfl
    rw [e]; rfl
  · have := hu.len
    simp only [List.length_cons, List.length_nil]
    dsimp only at this ⊢
    omega
  · have ho := hu.done hi
    dsimp only at ho
    subst ho
    have e : toldD (cf, id, le, wa, fl, sc, cl, ()) sock er now dead = (mkB cf id le [] (partF (endF fl) (wa.length : Int)) (noteS sc) cl, failL wa er, [], partC (endF fl) (wa.length : Int)) := by
      unfold toldD; rw [decide_eq_false h0, decide_eq_true (show er ≠ 191 from h1), Bool.false_and]; rfl
    rw [e]; rfl
  · have e : toldD (cf, id, le, wa, fl, sc, cl, ()) sock er now dead = (mkB cf id le wa (endF fl) (noteS sc) cl, [], [], false) := by
      unfold toldD; rw [decide_eq_false h0, decide_eq_false (show ¬ er ≠ 191 from fun h => h h1), Bool.false_and]; rfl
    rw [e]; rfl
theorem v14 : Vc g14 300 Try.f14 cClose := by
  constructor
  rw [v14_eq]
  simp only [Wr_iff, bcase_iff, true_and, and_true, decide_eq_true_eq, decide_eq_false_iff_not, Bool.and_eq_true, Bool.and_eq_false_iff, Bool.or_eq_true, Bool.or_eq_false_iff, Bool.not_eq_true', Bool.not_eq_false', Option.map_some, Option.getD_some, Option.isSome_some, Option.isSome_map, imp_self, nilL, noneO]
  rintro ⟨⟨cf, id, le, wa, fl, sc, cl, ⟨⟩⟩, c, ⟨⟩⟩ hb
  dsimp only at *
  have hs := hb
  rw [szB_iff] at hs
  dsimp only at hs
  refine ⟨fun hc => ⟨by simp, fun _ => trivial, ?_⟩, fun hc => ⟨AlI.zero _ _, fun ⟨k, o⟩ hu => ⟨fun hi => ⟨hu.i0, hi, ?_, hu.succ hs.2.2.1 hi⟩, fun hi => ?_⟩⟩⟩
  · subst hc; rfl
  · have := hu.len
    simp only [List.length_cons, List.length_nil]
    dsimp only at this ⊢
    omega
  · subst hc
    have hl := hu.len
    have ho := hu.done hi
    dsimp only at ho hl ⊢
    have hpl : (partF fl (wa.length : Int)).2.2.1 ≤ 1152921504606846976 := by simp only [partF, partN]; omega
    refine ⟨(szB_iff _).2 ⟨hs.1, hs.2.1, by simp, hs.2.2.2.1, hpl⟩, ?_, ?_, ?_⟩
    · rw [owns_len]
      dsimp only
      omega
    · simp only [List.length_cons, List.length_nil]; omega
    · exact ⟨fun _ => trivial, by subst ho; rfl⟩
end Go.Proofs.Ytdkcgcgefgeooaa.Bk
namespace Go.Proofs.Ytdkcgcgefgeooaa.Bk
open Go Go.Eng 
set_option maxRecDepth 100000
theorem val17 : Valid Try.prog GW 17 cTold := mkValid gws Tb.mix Tb.tab_ok Tb.eqs_ok g17 rfl (allV_cons val48 (allV_cons val61 (allV_cons val65 (allV_cons val66 (allV_cons val70 (allV_cons val71 (allV_cons val78 (allV_cons val79 allV_nil)))))))) (allI_cons Try.func27 (by kernel_rfl) (allI_cons Try.func29 (by kernel_rfl) (allI_cons Try.func38 (by kernel_rfl) (allI_cons Try.func45 (by kernel_rfl) (allI_cons Try.func49 (by kernel_rfl) (allI_cons Try.func50 (by kernel_rfl) (allI_cons Try.func56 (by kernel_rfl) (allI_cons Try.func57 (by kernel_rfl) (allI_cons Try.func58 (by kernel_rfl) (allI_cons Try.func60 (by kernel_rfl) (allI_cons Try.func63 (by kernel_rfl) (allI_cons Try.func64 (by kernel_rfl) allI_nil)))))))))))) Try.func17 (by kernel_rfl) v17
theorem val14 : Valid Try.prog GW 14 cClose := mkValid gws Tb.mix Tb.tab_ok Tb.eqs_ok g14 rfl (allV_cons val13 (allV_cons val70 (allV_cons val71 allV_nil))) (allI_cons Try.func27 (by kernel_rfl) (allI_cons Try.func29 (by kernel_rfl) (allI_cons Try.func35 (by kernel_rfl) (allI_cons Try.func45 (by kernel_rfl) (allI_cons Try.func49 (by kernel_rfl) (allI_cons Try.func50 (by kernel_rfl) (allI_cons Try.func56 (by kernel_rfl) (allI_cons Try.func57 (by kernel_rfl) (allI_cons Try.func58 (by kernel_rfl) allI_nil))))))))) Try.func14 (by kernel_rfl) v14
end Go.Proofs.Ytdkcgcgefgeooaa.Bk
set_option maxRecDepth 100000
namespace Go.Proofs.Ytdkcgcgefgeooaa.Bk
open Go Go.Eng
/-! the laws -/
def cWakes : Contract := conD .unit (.cons .bool .unit) (fun _ => true) fun _ => (true, ())
def cQuitL : Contract := conD (.cons BookT (.cons I64 .unit)) (.cons .bool .unit) (fun _ => true) fun _ => (true, ())
def cCloseL : Contract := conD (.cons BookT (.cons I64 (.cons I64 (.cons I64 .unit)))) (.cons .bool .unit) (fun _ => true) fun _ => (true, ())
structure QuI (n : Int) (i : Int) : Prop where
  i0 : 0 ≤ i
  i1 : i ≤ n
def ptO (s : St) (k : Nat) : Nat := match Go.Eng.look s.env k with
  | .pt o _ => o
  | _ => 99999
def keepO (s : St) (ks : List Nat) : Go.Eng.Own := ks.map fun k => (ptO s k, lookO s.own (ptO s k))
def quA : LoopAnn where
  α := Int
  keep := [1, 2, 5, 6, 7]
  okeep := []
  nxt := 9500
  env := fun _ x => [(8, .dat I64 x)]
  own := fun s _ => keepO s [2, 6, 7]
  inv := fun s x => QuI ((cDat BookT s 6 0).out.2.2.2.1.length : Int) x
  mu := fun s x => (cDat BookT s 6 0).out.2.2.2.1.length - x.toNat
  pick := some fun _ s => (bDat I64 s 8).out
def clA : LoopAnn where
  α := Int
  keep := [1, 2, 3, 4, 9, 10]
  okeep := []
  nxt := 9500
  env := fun _ x => [(11, .dat I64 x)]
  own := fun s _ => keepO s [4, 9, 10]
  inv := fun s x => QuI ((cDat BookT s 4 0).out.2.2.2.1.length : Int) x
  mu := fun s x => (cDat BookT s 4 0).out.2.2.2.1.length - x.toNat
  pick := some fun _ s => (bDat I64 s 11).out
end Go.Proofs.Ytdkcgcgefgeooaa.Bk
namespace Go.Proofs.Ytdkcgcgefgeooaa.Bk.B
open Go Go.Eng 
set_option maxRecDepth 100000
noncomputable def g8 : Cfg := { tab := Tb.tab, cons := [(10, cCk), (11, cSameB), (13, cOwns), (15, cAsk), (16, cBack), (17, cTold), (18, cOver), (19, cNew), (26, cStarted)], inls := [], loops := [], cuts := [], unroll := false, arrs := [], keys := [] }
end Go.Proofs.Ytdkcgcgefgeooaa.Bk.B
namespace Go.Proofs.Ytdkcgcgefgeooaa.Bk.B
open Go Go.Eng 
set_option maxRecDepth 100000
theorem v8_eq : vcFn g8 300 Try.f8 cWakes = ( ∀ (x : Unit), Wr (Bool.true = Bool.true) → Wr (Bool.true = Bool.true) ∧ Wr (askOk (mkB ((0 : Int), (1 : Int), (1 : Int), (0 : Int), (0 : Int), (9 : Int), (0 : Int), (0 : Int), (0 : Int), ()) (nilL (Int × Int × Unit))
  (nilL Int) (nilL Int) noneF (nilL ((Int × (Int × Int × Int × Int × Int × Int × Int × Int × Unit) × Int × Unit) × Int × Unit)) Bool.false) (nilL Int) = Bool.true) ∧ Wr (askOk (outB (askD (mkB ((0 : Int), (1 : Int), (1 :
  Int), (0 : Int), (0 : Int), (9 : Int), (0 : Int), (0 : Int), (0 : Int), ()) (nilL (Int × Int × Unit)) (nilL Int) (nilL Int) noneF (nilL ((Int × (Int × Int × Int × Int × Int × Int × Int × Int × Unit) × Int × Unit) × Int
  × Unit)) Bool.false) (5 : Int) (0 : Int) (nilL Int))) (nilL Int) = Bool.true) ∧ Wr ((!(!(outT (askD (mkB ((0 : Int), (1 : Int), (1 : Int), (0 : Int), (0 : Int), (9 : Int), (0 : Int), (0 : Int), (0 : Int), ()) (nilL (Int
  × Int × Unit)) (nilL Int) (nilL Int) noneF (nilL ((Int × (Int × Int × Int × Int × Int × Int × Int × Int × Unit) × Int × Unit) × Int × Unit)) Bool.false) (5 : Int) (0 : Int) (nilL Int))).snd.snd.fst || !Decidable.decide
  ((↑(List.length (outT (askD (mkB ((0 : Int), (1 : Int), (1 : Int), (0 : Int), (0 : Int), (9 : Int), (0 : Int), (0 : Int), (0 : Int), ()) (nilL (Int × Int × Unit)) (nilL Int) (nilL Int) noneF (nilL ((Int × (Int × Int ×
  Int × Int × Int × Int × Int × Int × Unit) × Int × Unit) × Int × Unit)) Bool.false) (5 : Int) (0 : Int) (nilL Int))).fst) : Int) = (0 : Int)) || !Decidable.decide ((↑(List.length (outT (askD (outB (askD (mkB ((0 : Int),
  (1 : Int), (1 : Int), (0 : Int), (0 : Int), (9 : Int), (0 : Int), (0 : Int), (0 : Int), ()) (nilL (Int × Int × Unit)) (nilL Int) (nilL Int) noneF (nilL ((Int × (Int × Int × Int × Int × Int × Int × Int × Int × Unit) ×
  Int × Unit) × Int × Unit)) Bool.false) (5 : Int) (0 : Int) (nilL Int))) (6 : Int) (0 : Int) (nilL Int))).fst) : Int) = (1 : Int)))) = Bool.true → (0 : Int) ≤ (0 : Int)) ∧ Wr ((!(!(outT (askD (mkB ((0 : Int), (1 : Int),
  (1 : Int), (0 : Int), (0 : Int), (9 : Int), (0 : Int), (0 : Int), (0 : Int), ()) (nilL (Int × Int × Unit)) (nilL Int) (nilL Int) noneF (nilL ((Int × (Int × Int × Int × Int × Int × Int × Int × Int × Unit) × Int × Unit) ×
  Int × Unit)) Bool.false) (5 : Int) (0 : Int) (nilL Int))).snd.snd.fst || !Decidable.decide ((↑(List.length (outT (askD (mkB ((0 : Int), (1 : Int), (1 : Int), (0 : Int), (0 : Int), (9 : Int), (0 : Int), (0 : Int), (0 :
  Int), ()) (nilL (Int × Int × Unit)) (nilL Int) (nilL Int) noneF (nilL ((Int × (Int × Int × Int × Int × Int × Int × Int × Int × Unit) × Int × Unit) × Int × Unit)) Bool.false) (5 : Int) (0 : Int) (nilL Int))).fst) : Int)
  = (0 : Int)) || !Decidable.decide ((↑(List.length (outT (askD (outB (askD (mkB ((0 : Int), (1 : Int), (1 : Int), (0 : Int), (0 : Int), (9 : Int), (0 : Int), (0 : Int), (0 : Int), ()) (nilL (Int × Int × Unit)) (nilL Int)
  (nilL Int) noneF (nilL ((Int × (Int × Int × Int × Int × Int × Int × Int × Int × Unit) × Int × Unit) × Int × Unit)) Bool.false) (5 : Int) (0 : Int) (nilL Int))) (6 : Int) (0 : Int) (nilL Int))).fst) : Int) = (1 : Int))))
  = Bool.true → (0 : Int) < (↑(List.length (outT (askD (outB (askD (mkB ((0 : Int), (1 : Int), (1 : Int), (0 : Int), (0 : Int), (9 : Int), (0 : Int), (0 : Int), (0 : Int), ()) (nilL (Int × Int × Unit)) (nilL Int) (nilL
  Int) noneF (nilL ((Int × (Int × Int × Int × Int × Int × Int × Int × Int × Unit) × Int × Unit) × Int × Unit)) Bool.false) (5 : Int) (0 : Int) (nilL Int))) (6 : Int) (0 : Int) (nilL Int))).fst) : Int)) ∧ Wr ((!(!(outT
  (askD (mkB ((0 : Int), (1 : Int), (1 : Int), (0 : Int), (0 : Int), (9 : Int), (0 : Int), (0 : Int), (0 : Int), ()) (nilL (Int × Int × Unit)) (nilL Int) (nilL Int) noneF (nilL ((Int × (Int × Int × Int × Int × Int × Int ×
  Int × Int × Unit) × Int × Unit) × Int × Unit)) Bool.false) (5 : Int) (0 : Int) (nilL Int))).snd.snd.fst || !Decidable.decide ((↑(List.length (outT (askD (mkB ((0 : Int), (1 : Int), (1 : Int), (0 : Int), (0 : Int), (9 :
  Int), (0 : Int), (0 : Int), (0 : Int), ()) (nilL (Int × Int × Unit)) (nilL Int) (nilL Int) noneF (nilL ((Int × (Int × Int × Int × Int × Int × Int × Int × Int × Unit) × Int × Unit) × Int × Unit)) Bool.false) (5 : Int) (0
  : Int) (nilL Int))).fst) : Int) = (0 : Int)) || !Decidable.decide ((↑(List.length (outT (askD (outB (askD (mkB ((0 : Int), (1 : Int), (1 : Int), (0 : Int), (0 : Int), (9 : Int), (0 : Int), (0 : Int), (0 : Int), ())
  (nilL (Int × Int × Unit)) (nilL Int) (nilL Int) noneF (nilL ((Int × (Int × Int × Int × Int × Int × Int × Int × Int × Unit) × Int × Unit) × Int × Unit)) Bool.false) (5 : Int) (0 : Int) (nilL Int))) (6 : Int) (0 : Int)
  (nilL Int))).fst) : Int) = (1 : Int)))) = Bool.true → Bool.true = Bool.true) ∧ Wr ((!(!(outT (askD (mkB ((0 : Int), (1 : Int), (1 : Int), (0 : Int), (0 : Int), (9 : Int), (0 : Int), (0 : Int), (0 : Int), ()) (nilL (Int
  × Int × Unit)) (nilL Int) (nilL Int) noneF (nilL ((Int × (Int × Int × Int × Int × Int × Int × Int × Int × Unit) × Int × Unit) × Int × Unit)) Bool.false) (5 : Int) (0 : Int) (nilL Int))).snd.snd.fst || !Decidable.decide
  ((↑(List.length (outT (askD (mkB ((0 : Int), (1 : Int), (1 : Int), (0 : Int), (0 : Int), (9 : Int), (0 : Int), (0 : Int), (0 : Int), ()) (nilL (Int × Int × Unit)) (nilL Int) (nilL Int) noneF (nilL ((Int × (Int × Int ×
  Int × Int × Int × Int × Int × Int × Unit) × Int × Unit) × Int × Unit)) Bool.false) (5 : Int) (0 : Int) (nilL Int))).fst) : Int) = (0 : Int)) || !Decidable.decide ((↑(List.length (outT (askD (outB (askD (mkB ((0 : Int),
  (1 : Int), (1 : Int), (0 : Int), (0 : Int), (9 : Int), (0 : Int), (0 : Int), (0 : Int), ()) (nilL (Int × Int × Unit)) (nilL Int) (nilL Int) noneF (nilL ((Int × (Int × Int × Int × Int × Int × Int × Int × Int × Unit) ×
  Int × Unit) × Int × Unit)) Bool.false) (5 : Int) (0 : Int) (nilL Int))) (6 : Int) (0 : Int) (nilL Int))).fst) : Int) = (1 : Int)) || !Ty.eqb (Ty.cons (Ty.int IntKind.i64) (Ty.cons (Ty.int IntKind.i64) (Ty.cons (Ty.int
  IntKind.i64) Ty.unit))) (List.getD (outT (askD (outB (askD (mkB ((0 : Int), (1 : Int), (1 : Int), (0 : Int), (0 : Int), (9 : Int), (0 : Int), (0 : Int), (0 : Int), ()) (nilL (Int × Int × Unit)) (nilL Int) (nilL Int)
  noneF (nilL ((Int × (Int × Int × Int × Int × Int × Int × Int × Int × Unit) × Int × Unit) × Int × Unit)) Bool.false) (5 : Int) (0 : Int) (nilL Int))) (6 : Int) (0 : Int) (nilL Int))).fst (Int.toNat (0 : Int)) (Ty.zero
  RepT)) ((6 : Int), (-1 : Int), (230 : Int), ()))) = Bool.true → outB (askD (mkB ((0 : Int), (1 : Int), (1 : Int), (0 : Int), (0 : Int), (9 : Int), (0 : Int), (0 : Int), (0 : Int), ()) (nilL (Int × Int × Unit)) (nilL
  Int) (nilL Int) noneF (nilL ((Int × (Int × Int × Int × Int × Int × Int × Int × Int × Unit) × Int × Unit) × Int × Unit)) Bool.false) (5 : Int) (0 : Int) (nilL Int)) = outB (askD (outB (askD (mkB ((0 : Int), (1 : Int), (1
  : Int), (0 : Int), (0 : Int), (9 : Int), (0 : Int), (0 : Int), (0 : Int), ()) (nilL (Int × Int × Unit)) (nilL Int) (nilL Int) noneF (nilL ((Int × (Int × Int × Int × Int × Int × Int × Int × Int × Unit) × Int × Unit) ×
  Int × Unit)) Bool.false) (5 : Int) (0 : Int) (nilL Int))) (6 : Int) (0 : Int) (nilL Int))) ∧ Wr (Bool.true = Bool.true) ∧ Wr ((szB (startB (outB (askD (mkB ((0 : Int), (1 : Int), (1 : Int), (0 : Int), (0 : Int), (9 :
  Int), (0 : Int), (0 : Int), (0 : Int), ()) (nilL (Int × Int × Unit)) (nilL Int) (nilL Int) noneF (nilL ((Int × (Int × Int × Int × Int × Int × Int × Int × Int × Unit) × Int × Unit) × Int × Unit)) Bool.false) (5 : Int) (0
  : Int) (nilL Int))) (7 : Int)) && szI (nilL Int) && Decidable.decide (List.length (nilL (Int × (Int × Int × Int × Int × Int × Int × Int × Int × Unit) × Int × Unit)) = (0 : Nat))) = Bool.true) ∧ Wr ((szB (outB (toldD
  (startB (outB (askD (mkB ((0 : Int), (1 : Int), (1 : Int), (0 : Int), (0 : Int), (9 : Int), (0 : Int), (0 : Int), (0 : Int), ()) (nilL (Int × Int × Unit)) (nilL Int) (nilL Int) noneF (nilL ((Int × (Int × Int × Int × Int
  × Int × Int × Int × Int × Unit) × Int × Unit) × Int × Unit)) Bool.false) (5 : Int) (0 : Int) (nilL Int))) (7 : Int)) (3 : Int) (0 : Int) (1 : Int) (nilL Int))) && szI (nilL Int)) = Bool.true) ∧ Wr (Decidable.decide
  ((↑(List.length (outT (toldD (startB (outB (askD (mkB ((0 : Int), (1 : Int), (1 : Int), (0 : Int), (0 : Int), (9 : Int), (0 : Int), (0 : Int), (0 : Int), ()) (nilL (Int × Int × Unit)) (nilL Int) (nilL Int) noneF (nilL
  ((Int × (Int × Int × Int × Int × Int × Int × Int × Int × Unit) × Int × Unit) × Int × Unit)) Bool.false) (5 : Int) (0 : Int) (nilL Int))) (7 : Int)) (3 : Int) (0 : Int) (1 : Int) (nilL Int))).fst) : Int) = (1 : Int)) =
  Bool.true → (0 : Int) ≤ (0 : Int)) ∧ Wr (Decidable.decide ((↑(List.length (outT (toldD (startB (outB (askD (mkB ((0 : Int), (1 : Int), (1 : Int), (0 : Int), (0 : Int), (9 : Int), (0 : Int), (0 : Int), (0 : Int), ())
  (nilL (Int × Int × Unit)) (nilL Int) (nilL Int) noneF (nilL ((Int × (Int × Int × Int × Int × Int × Int × Int × Int × Unit) × Int × Unit) × Int × Unit)) Bool.false) (5 : Int) (0 : Int) (nilL Int))) (7 : Int)) (3 : Int)
  (0 : Int) (1 : Int) (nilL Int))).fst) : Int) = (1 : Int)) = Bool.true → (0 : Int) < (↑(List.length (outT (toldD (startB (outB (askD (mkB ((0 : Int), (1 : Int), (1 : Int), (0 : Int), (0 : Int), (9 : Int), (0 : Int), (0 :
  Int), (0 : Int), ()) (nilL (Int × Int × Unit)) (nilL Int) (nilL Int) noneF (nilL ((Int × (Int × Int × Int × Int × Int × Int × Int × Int × Unit) × Int × Unit) × Int × Unit)) Bool.false) (5 : Int) (0 : Int) (nilL Int)))
  (7 : Int)) (3 : Int) (0 : Int) (1 : Int) (nilL Int))).fst) : Int)) ∧ Wr (Decidable.decide ((↑(List.length (outT (toldD (startB (outB (askD (mkB ((0 : Int), (1 : Int), (1 : Int), (0 : Int), (0 : Int), (9 : Int), (0 :
  Int), (0 : Int), (0 : Int), ()) (nilL (Int × Int × Unit)) (nilL Int) (nilL Int) noneF (nilL ((Int × (Int × Int × Int × Int × Int × Int × Int × Int × Unit) × Int × Unit) × Int × Unit)) Bool.false) (5 : Int) (0 : Int)
  (nilL Int))) (7 : Int)) (3 : Int) (0 : Int) (1 : Int) (nilL Int))).fst) : Int) = (1 : Int)) = Bool.true → Bool.true = Bool.true) ∧ Wr ((Decidable.decide ((↑(List.length (outT (toldD (startB (outB (askD (mkB ((0 : Int),
  (1 : Int), (1 : Int), (0 : Int), (0 : Int), (9 : Int), (0 : Int), (0 : Int), (0 : Int), ()) (nilL (Int × Int × Unit)) (nilL Int) (nilL Int) noneF (nilL ((Int × (Int × Int × Int × Int × Int × Int × Int × Int × Unit) ×
  Int × Unit) × Int × Unit)) Bool.false) (5 : Int) (0 : Int) (nilL Int))) (7 : Int)) (3 : Int) (0 : Int) (1 : Int) (nilL Int))).fst) : Int) = (1 : Int)) && Ty.eqb (Ty.cons (Ty.int IntKind.i64) (Ty.cons (Ty.int
  IntKind.i64) (Ty.cons (Ty.int IntKind.i64) Ty.unit))) (List.getD (outT (toldD (startB (outB (askD (mkB ((0 : Int), (1 : Int), (1 : Int), (0 : Int), (0 : Int), (9 : Int), (0 : Int), (0 : Int), (0 : Int), ()) (nilL (Int ×
  Int × Unit)) (nilL Int) (nilL Int) noneF (nilL ((Int × (Int × Int × Int × Int × Int × Int × Int × Int × Unit) × Int × Unit) × Int × Unit)) Bool.false) (5 : Int) (0 : Int) (nilL Int))) (7 : Int)) (3 : Int) (0 : Int) (1 :
  Int) (nilL Int))).fst (Int.toNat (0 : Int)) (Ty.zero RepT)) ((5 : Int), (3 : Int), (0 : Int), ()) && Decidable.decide ((↑(List.length (outT (backD (outB (toldD (startB (outB (askD (mkB ((0 : Int), (1 : Int), (1 : Int),
  (0 : Int), (0 : Int), (9 : Int), (0 : Int), (0 : Int), (0 : Int), ()) (nilL (Int × Int × Unit)) (nilL Int) (nilL Int) noneF (nilL ((Int × (Int × Int × Int × Int × Int × Int × Int × Int × Unit) × Int × Unit) × Int ×
  Unit)) Bool.false) (5 : Int) (0 : Int) (nilL Int))) (7 : Int)) (3 : Int) (0 : Int) (1 : Int) (nilL Int))) (5 : Int) (3 : Int) Bool.true (2 : Int) (nilL Int))).fst) : Int) = (1 : Int))) = Bool.true → (0 : Int) ≤ (0 :
  Int)) ∧ Wr ((Decidable.decide ((↑(List.length (outT (toldD (startB (outB (askD (mkB ((0 : Int), (1 : Int), (1 : Int), (0 : Int), (0 : Int), (9 : Int), (0 : Int), (0 : Int), (0 : Int), ()) (nilL (Int × Int × Unit)) (nilL
  Int) (nilL Int) noneF (nilL ((Int × (Int × Int × Int × Int × Int × Int × Int × Int × Unit) × Int × Unit) × Int × Unit)) Bool.false) (5 : Int) (0 : Int) (nilL Int))) (7 : Int)) (3 : Int) (0 : Int) (1 : Int) (nilL
  Int))).fst) : Int) = (1 : Int)) && Ty.eqb (Ty.cons (Ty.int IntKind.i64) (Ty.cons (Ty.int IntKind.i64) (Ty.cons (Ty.int IntKind.i64) Ty.unit))) (List.getD (outT (toldD (startB (outB (askD (mkB ((0 : Int), (1 : Int), (1 :
  Int), (0 : Int), (0 : Int), (9 : Int), (0 : Int), (0 : Int), (0 : Int), ()) (nilL (Int × Int × Unit)) (nilL Int) (nilL Int) noneF (nilL ((Int × (Int × Int × Int × Int × Int × Int × Int × Int × Unit) × Int × Unit) × Int
  × Unit)) Bool.false) (5 : Int) (0 : Int) (nilL Int))) (7 : Int)) (3 : Int) (0 : Int) (1 : Int) (nilL Int))).fst (Int.toNat (0 : Int)) (Ty.zero RepT)) ((5 : Int), (3 : Int), (0 : Int), ()) && Decidable.decide
  ((↑(List.length (outT (backD (outB (toldD (startB (outB (askD (mkB ((0 : Int), (1 : Int), (1 : Int), (0 : Int), (0 : Int), (9 : Int), (0 : Int), (0 : Int), (0 : Int), ()) (nilL (Int × Int × Unit)) (nilL Int) (nilL Int)
  noneF (nilL ((Int × (Int × Int × Int × Int × Int × Int × Int × Int × Unit) × Int × Unit) × Int × Unit)) Bool.false) (5 : Int) (0 : Int) (nilL Int))) (7 : Int)) (3 : Int) (0 : Int) (1 : Int) (nilL Int))) (5 : Int) (3 :
  Int) Bool.true (2 : Int) (nilL Int))).fst) : Int) = (1 : Int))) = Bool.true → (0 : Int) < (↑(List.length (outT (backD (outB (toldD (startB (outB (askD (mkB ((0 : Int), (1 : Int), (1 : Int), (0 : Int), (0 : Int), (9 :
  Int), (0 : Int), (0 : Int), (0 : Int), ()) (nilL (Int × Int × Unit)) (nilL Int) (nilL Int) noneF (nilL ((Int × (Int × Int × Int × Int × Int × Int × Int × Int × Unit) × Int × Unit) × Int × Unit)) Bool.false) (5 : Int) (0
  : Int) (nilL Int))) (7 : Int)) (3 : Int) (0 : Int) (1 : Int) (nilL Int))) (5 : Int) (3 : Int) Bool.true (2 : Int) (nilL Int))).fst) : Int)) ∧ Wr ((Decidable.decide ((↑(List.length (outT (toldD (startB (outB (askD (mkB
  ((0 : Int), (1 : Int), (1 : Int), (0 : Int), (0 : Int), (9 : Int), (0 : Int), (0 : Int), (0 : Int), ()) (nilL (Int × Int × Unit)) (nilL Int) (nilL Int) noneF (nilL ((Int × (Int × Int × Int × Int × Int × Int × Int × Int
  × Unit) × Int × Unit) × Int × Unit)) Bool.false) (5 : Int) (0 : Int) (nilL Int))) (7 : Int)) (3 : Int) (0 : Int) (1 : Int) (nilL Int))).fst) : Int) = (1 : Int)) && Ty.eqb (Ty.cons (Ty.int IntKind.i64) (Ty.cons (Ty.int
  IntKind.i64) (Ty.cons (Ty.int IntKind.i64) Ty.unit))) (List.getD (outT (toldD (startB (outB (askD (mkB ((0 : Int), (1 : Int), (1 : Int), (0 : Int), (0 : Int), (9 : Int), (0 : Int), (0 : Int), (0 : Int), ()) (nilL (Int ×
  Int × Unit)) (nilL Int) (nilL Int) noneF (nilL ((Int × (Int × Int × Int × Int × Int × Int × Int × Int × Unit) × Int × Unit) × Int × Unit)) Bool.false) (5 : Int) (0 : Int) (nilL Int))) (7 : Int)) (3 : Int) (0 : Int) (1 :
  Int) (nilL Int))).fst (Int.toNat (0 : Int)) (Ty.zero RepT)) ((5 : Int), (3 : Int), (0 : Int), ()) && Decidable.decide ((↑(List.length (outT (backD (outB (toldD (startB (outB (askD (mkB ((0 : Int), (1 : Int), (1 : Int),
  (0 : Int), (0 : Int), (9 : Int), (0 : Int), (0 : Int), (0 : Int), ()) (nilL (Int × Int × Unit)) (nilL Int) (nilL Int) noneF (nilL ((Int × (Int × Int × Int × Int × Int × Int × Int × Int × Unit) × Int × Unit) × Int ×
  Unit)) Bool.false) (5 : Int) (0 : Int) (nilL Int))) (7 : Int)) (3 : Int) (0 : Int) (1 : Int) (nilL Int))) (5 : Int) (3 : Int) Bool.true (2 : Int) (nilL Int))).fst) : Int) = (1 : Int))) = Bool.true → Bool.true =
  Bool.true) ∧ Wr ((Decidable.decide ((↑(List.length (outT (toldD (startB (outB (askD (mkB ((0 : Int), (1 : Int), (1 : Int), (0 : Int), (0 : Int), (9 : Int), (0 : Int), (0 : Int), (0 : Int), ()) (nilL (Int × Int × Unit))
  (nilL Int) (nilL Int) noneF (nilL ((Int × (Int × Int × Int × Int × Int × Int × Int × Int × Unit) × Int × Unit) × Int × Unit)) Bool.false) (5 : Int) (0 : Int) (nilL Int))) (7 : Int)) (3 : Int) (0 : Int) (1 : Int) (nilL
  Int))).fst) : Int) = (1 : Int)) && Ty.eqb (Ty.cons (Ty.int IntKind.i64) (Ty.cons (Ty.int IntKind.i64) (Ty.cons (Ty.int IntKind.i64) Ty.unit))) (List.getD (outT (toldD (startB (outB (askD (mkB ((0 : Int), (1 : Int), (1 :
  Int), (0 : Int), (0 : Int), (9 : Int), (0 : Int), (0 : Int), (0 : Int), ()) (nilL (Int × Int × Unit)) (nilL Int) (nilL Int) noneF (nilL ((Int × (Int × Int × Int × Int × Int × Int × Int × Int × Unit) × Int × Unit) × Int
  × Unit)) Bool.false) (5 : Int) (0 : Int) (nilL Int))) (7 : Int)) (3 : Int) (0 : Int) (1 : Int) (nilL Int))).fst (Int.toNat (0 : Int)) (Ty.zero RepT)) ((5 : Int), (3 : Int), (0 : Int), ()) && Decidable.decide
  ((↑(List.length (outT (backD (outB (toldD (startB (outB (askD (mkB ((0 : Int), (1 : Int), (1 : Int), (0 : Int), (0 : Int), (9 : Int), (0 : Int), (0 : Int), (0 : Int), ()) (nilL (Int × Int × Unit)) (nilL Int) (nilL Int)
  noneF (nilL ((Int × (Int × Int × Int × Int × Int × Int × Int × Int × Unit) × Int × Unit) × Int × Unit)) Bool.false) (5 : Int) (0 : Int) (nilL Int))) (7 : Int)) (3 : Int) (0 : Int) (1 : Int) (nilL Int))) (5 : Int) (3 :
  Int) Bool.true (2 : Int) (nilL Int))).fst) : Int) = (1 : Int))) = Bool.true → Bool.true = Bool.true) ∧ Wr ((Decidable.decide ((↑(List.length (outT (toldD (startB (outB (askD (mkB ((0 : Int), (1 : Int), (1 : Int), (0 :
  Int), (0 : Int), (9 : Int), (0 : Int), (0 : Int), (0 : Int), ()) (nilL (Int × Int × Unit)) (nilL Int) (nilL Int) noneF (nilL ((Int × (Int × Int × Int × Int × Int × Int × Int × Int × Unit) × Int × Unit) × Int × Unit))
  Bool.false) (5 : Int) (0 : Int) (nilL Int))) (7 : Int)) (3 : Int) (0 : Int) (1 : Int) (nilL Int))).fst) : Int) = (1 : Int)) && Ty.eqb (Ty.cons (Ty.int IntKind.i64) (Ty.cons (Ty.int IntKind.i64) (Ty.cons (Ty.int
  IntKind.i64) Ty.unit))) (List.getD (outT (toldD (startB (outB (askD (mkB ((0 : Int), (1 : Int), (1 : Int), (0 : Int), (0 : Int), (9 : Int), (0 : Int), (0 : Int), (0 : Int), ()) (nilL (Int × Int × Unit)) (nilL Int) (nilL
  Int) noneF (nilL ((Int × (Int × Int × Int × Int × Int × Int × Int × Int × Unit) × Int × Unit) × Int × Unit)) Bool.false) (5 : Int) (0 : Int) (nilL Int))) (7 : Int)) (3 : Int) (0 : Int) (1 : Int) (nilL Int))).fst
  (Int.toNat (0 : Int)) (Ty.zero RepT)) ((5 : Int), (3 : Int), (0 : Int), ()) && Decidable.decide ((↑(List.length (outT (backD (outB (toldD (startB (outB (askD (mkB ((0 : Int), (1 : Int), (1 : Int), (0 : Int), (0 : Int),
  (9 : Int), (0 : Int), (0 : Int), (0 : Int), ()) (nilL (Int × Int × Unit)) (nilL Int) (nilL Int) noneF (nilL ((Int × (Int × Int × Int × Int × Int × Int × Int × Int × Unit) × Int × Unit) × Int × Unit)) Bool.false) (5 :
  Int) (0 : Int) (nilL Int))) (7 : Int)) (3 : Int) (0 : Int) (1 : Int) (nilL Int))) (5 : Int) (3 : Int) Bool.true (2 : Int) (nilL Int))).fst) : Int) = (1 : Int)) && Decidable.decide (Int.ofNat (0 : Nat) = (0 : Int)) &&
  Decidable.decide ((↑(List.length (outB (backD (outB (toldD (startB (outB (askD (mkB ((0 : Int), (1 : Int), (1 : Int), (0 : Int), (0 : Int), (9 : Int), (0 : Int), (0 : Int), (0 : Int), ()) (nilL (Int × Int × Unit)) (nilL
  Int) (nilL Int) noneF (nilL ((Int × (Int × Int × Int × Int × Int × Int × Int × Int × Unit) × Int × Unit) × Int × Unit)) Bool.false) (5 : Int) (0 : Int) (nilL Int))) (7 : Int)) (3 : Int) (0 : Int) (1 : Int) (nilL Int)))
  (5 : Int) (3 : Int) Bool.true (2 : Int) (nilL Int))).snd.fst) : Int) = (1 : Int))) = Bool.true → (0 : Int) ≤ (0 : Int)) ∧ Wr ((Decidable.decide ((↑(List.length (outT (toldD (startB (outB (askD (mkB ((0 : Int), (1 :
  Int), (1 : Int), (0 : Int), (0 : Int), (9 : Int), (0 : Int), (0 : Int), (0 : Int), ()) (nilL (Int × Int × Unit)) (nilL Int) (nilL Int) noneF (nilL ((Int × (Int × Int × Int × Int × Int × Int × Int × Int × Unit) × Int ×
  Unit) × Int × Unit)) Bool.false) (5 : Int) (0 : Int) (nilL Int))) (7 : Int)) (3 : Int) (0 : Int) (1 : Int) (nilL Int))).fst) : Int) = (1 : Int)) && Ty.eqb (Ty.cons (Ty.int IntKind.i64) (Ty.cons (Ty.int IntKind.i64)
  (Ty.cons (Ty.int IntKind.i64) Ty.unit))) (List.getD (outT (toldD (startB (outB (askD (mkB ((0 : Int), (1 : Int), (1 : Int), (0 : Int), (0 : Int), (9 : Int), (0 : Int), (0 : Int), (0 : Int), ()) (nilL (Int × Int × Unit))
  (nilL Int) (nilL Int) noneF (nilL ((Int × (Int × Int × Int × Int × Int × Int × Int × Int × Unit) × Int × Unit) × Int × Unit)) Bool.false) (5 : Int) (0 : Int) (nilL Int))) (7 : Int)) (3 : Int) (0 : Int) (1 : Int) (nilL
  Int))).fst (Int.toNat (0 : Int)) (Ty.zero RepT)) ((5 : Int), (3 : Int), (0 : Int), ()) && Decidable.decide ((↑(List.length (outT (backD (outB (toldD (startB (outB (askD (mkB ((0 : Int), (1 : Int), (1 : Int), (0 : Int),
  (0 : Int), (9 : Int), (0 : Int), (0 : Int), (0 : Int), ()) (nilL (Int × Int × Unit)) (nilL Int) (nilL Int) noneF (nilL ((Int × (Int × Int × Int × Int × Int × Int × Int × Int × Unit) × Int × Unit) × Int × Unit))
  Bool.false) (5 : Int) (0 : Int) (nilL Int))) (7 : Int)) (3 : Int) (0 : Int) (1 : Int) (nilL Int))) (5 : Int) (3 : Int) Bool.true (2 : Int) (nilL Int))).fst) : Int) = (1 : Int)) && Decidable.decide (Int.ofNat (0 : Nat) =
  (0 : Int)) && Decidable.decide ((↑(List.length (outB (backD (outB (toldD (startB (outB (askD (mkB ((0 : Int), (1 : Int), (1 : Int), (0 : Int), (0 : Int), (9 : Int), (0 : Int), (0 : Int), (0 : Int), ()) (nilL (Int × Int
  × Unit)) (nilL Int) (nilL Int) noneF (nilL ((Int × (Int × Int × Int × Int × Int × Int × Int × Int × Unit) × Int × Unit) × Int × Unit)) Bool.false) (5 : Int) (0 : Int) (nilL Int))) (7 : Int)) (3 : Int) (0 : Int) (1 :
  Int) (nilL Int))) (5 : Int) (3 : Int) Bool.true (2 : Int) (nilL Int))).snd.fst) : Int) = (1 : Int))) = Bool.true → (0 : Int) < (↑(List.length (outB (backD (outB (toldD (startB (outB (askD (mkB ((0 : Int), (1 : Int), (1
  : Int), (0 : Int), (0 : Int), (9 : Int), (0 : Int), (0 : Int), (0 : Int), ()) (nilL (Int × Int × Unit)) (nilL Int) (nilL Int) noneF (nilL ((Int × (Int × Int × Int × Int × Int × Int × Int × Int × Unit) × Int × Unit) ×
  Int × Unit)) Bool.false) (5 : Int) (0 : Int) (nilL Int))) (7 : Int)) (3 : Int) (0 : Int) (1 : Int) (nilL Int))) (5 : Int) (3 : Int) Bool.true (2 : Int) (nilL Int))).snd.fst) : Int)) ∧ Wr ((Decidable.decide
  ((↑(List.length (outT (toldD (startB (outB (askD (mkB ((0 : Int), (1 : Int), (1 : Int), (0 : Int), (0 : Int), (9 : Int), (0 : Int), (0 : Int), (0 : Int), ()) (nilL (Int × Int × Unit)) (nilL Int) (nilL Int) noneF (nilL
  ((Int × (Int × Int × Int × Int × Int × Int × Int × Int × Unit) × Int × Unit) × Int × Unit)) Bool.false) (5 : Int) (0 : Int) (nilL Int))) (7 : Int)) (3 : Int) (0 : Int) (1 : Int) (nilL Int))).fst) : Int) = (1 : Int)) &&
  Ty.eqb (Ty.cons (Ty.int IntKind.i64) (Ty.cons (Ty.int IntKind.i64) (Ty.cons (Ty.int IntKind.i64) Ty.unit))) (List.getD (outT (toldD (startB (outB (askD (mkB ((0 : Int), (1 : Int), (1 : Int), (0 : Int), (0 : Int), (9 :
  Int), (0 : Int), (0 : Int), (0 : Int), ()) (nilL (Int × Int × Unit)) (nilL Int) (nilL Int) noneF (nilL ((Int × (Int × Int × Int × Int × Int × Int × Int × Int × Unit) × Int × Unit) × Int × Unit)) Bool.false) (5 : Int) (0
  : Int) (nilL Int))) (7 : Int)) (3 : Int) (0 : Int) (1 : Int) (nilL Int))).fst (Int.toNat (0 : Int)) (Ty.zero RepT)) ((5 : Int), (3 : Int), (0 : Int), ()) && Decidable.decide ((↑(List.length (outT (backD (outB (toldD
  (startB (outB (askD (mkB ((0 : Int), (1 : Int), (1 : Int), (0 : Int), (0 : Int), (9 : Int), (0 : Int), (0 : Int), (0 : Int), ()) (nilL (Int × Int × Unit)) (nilL Int) (nilL Int) noneF (nilL ((Int × (Int × Int × Int × Int
  × Int × Int × Int × Int × Unit) × Int × Unit) × Int × Unit)) Bool.false) (5 : Int) (0 : Int) (nilL Int))) (7 : Int)) (3 : Int) (0 : Int) (1 : Int) (nilL Int))) (5 : Int) (3 : Int) Bool.true (2 : Int) (nilL Int))).fst) :
  Int) = (1 : Int)) && Decidable.decide (Int.ofNat (0 : Nat) = (0 : Int)) && Decidable.decide ((↑(List.length (outB (backD (outB (toldD (startB (outB (askD (mkB ((0 : Int), (1 : Int), (1 : Int), (0 : Int), (0 : Int), (9 :
  Int), (0 : Int), (0 : Int), (0 : Int), ()) (nilL (Int × Int × Unit)) (nilL Int) (nilL Int) noneF (nilL ((Int × (Int × Int × Int × Int × Int × Int × Int × Int × Unit) × Int × Unit) × Int × Unit)) Bool.false) (5 : Int) (0
  : Int) (nilL Int))) (7 : Int)) (3 : Int) (0 : Int) (1 : Int) (nilL Int))) (5 : Int) (3 : Int) Bool.true (2 : Int) (nilL Int))).snd.fst) : Int) = (1 : Int))) = Bool.true → Bool.true = Bool.true) ∧ Wr ((Decidable.decide
  ((↑(List.length (outT (toldD (startB (outB (askD (mkB ((0 : Int), (1 : Int), (1 : Int), (0 : Int), (0 : Int), (9 : Int), (0 : Int), (0 : Int), (0 : Int), ()) (nilL (Int × Int × Unit)) (nilL Int) (nilL Int) noneF (nilL
  ((Int × (Int × Int × Int × Int × Int × Int × Int × Int × Unit) × Int × Unit) × Int × Unit)) Bool.false) (5 : Int) (0 : Int) (nilL Int))) (7 : Int)) (3 : Int) (0 : Int) (1 : Int) (nilL Int))).fst) : Int) = (1 : Int)) &&
  Ty.eqb (Ty.cons (Ty.int IntKind.i64) (Ty.cons (Ty.int IntKind.i64) (Ty.cons (Ty.int IntKind.i64) Ty.unit))) (List.getD (outT (toldD (startB (outB (askD (mkB ((0 : Int), (1 : Int), (1 : Int), (0 : Int), (0 : Int), (9 :
  Int), (0 : Int), (0 : Int), (0 : Int), ()) (nilL (Int × Int × Unit)) (nilL Int) (nilL Int) noneF (nilL ((Int × (Int × Int × Int × Int × Int × Int × Int × Int × Unit) × Int × Unit) × Int × Unit)) Bool.false) (5 : Int) (0
  : Int) (nilL Int))) (7 : Int)) (3 : Int) (0 : Int) (1 : Int) (nilL Int))).fst (Int.toNat (0 : Int)) (Ty.zero RepT)) ((5 : Int), (3 : Int), (0 : Int), ()) && Decidable.decide ((↑(List.length (outT (backD (outB (toldD
  (startB (outB (askD (mkB ((0 : Int), (1 : Int), (1 : Int), (0 : Int), (0 : Int), (9 : Int), (0 : Int), (0 : Int), (0 : Int), ()) (nilL (Int × Int × Unit)) (nilL Int) (nilL Int) noneF (nilL ((Int × (Int × Int × Int × Int
  × Int × Int × Int × Int × Unit) × Int × Unit) × Int × Unit)) Bool.false) (5 : Int) (0 : Int) (nilL Int))) (7 : Int)) (3 : Int) (0 : Int) (1 : Int) (nilL Int))) (5 : Int) (3 : Int) Bool.true (2 : Int) (nilL Int))).fst) :
  Int) = (1 : Int)) && Decidable.decide (Int.ofNat (0 : Nat) = (0 : Int)) && Decidable.decide ((↑(List.length (outB (backD (outB (toldD (startB (outB (askD (mkB ((0 : Int), (1 : Int), (1 : Int), (0 : Int), (0 : Int), (9 :
  Int), (0 : Int), (0 : Int), (0 : Int), ()) (nilL (Int × Int × Unit)) (nilL Int) (nilL Int) noneF (nilL ((Int × (Int × Int × Int × Int × Int × Int × Int × Int × Unit) × Int × Unit) × Int × Unit)) Bool.false) (5 : Int) (0
  : Int) (nilL Int))) (7 : Int)) (3 : Int) (0 : Int) (1 : Int) (nilL Int))) (5 : Int) (3 : Int) Bool.true (2 : Int) (nilL Int))).snd.fst) : Int) = (1 : Int))) = Bool.true → Bool.true = Bool.true) ∧ Wr ((Decidable.decide
  ((↑(List.length (outT (toldD (startB (outB (askD (mkB ((0 : Int), (1 : Int), (1 : Int), (0 : Int), (0 : Int), (9 : Int), (0 : Int), (0 : Int), (0 : Int), ()) (nilL (Int × Int × Unit)) (nilL Int) (nilL Int) noneF (nilL
  ((Int × (Int × Int × Int × Int × Int × Int × Int × Int × Unit) × Int × Unit) × Int × Unit)) Bool.false) (5 : Int) (0 : Int) (nilL Int))) (7 : Int)) (3 : Int) (0 : Int) (1 : Int) (nilL Int))).fst) : Int) = (1 : Int)) &&
  Ty.eqb (Ty.cons (Ty.int IntKind.i64) (Ty.cons (Ty.int IntKind.i64) (Ty.cons (Ty.int IntKind.i64) Ty.unit))) (List.getD (outT (toldD (startB (outB (askD (mkB ((0 : Int), (1 : Int), (1 : Int), (0 : Int), (0 : Int), (9 :
  Int), (0 : Int), (0 : Int), (0 : Int), ()) (nilL (Int × Int × Unit)) (nilL Int) (nilL Int) noneF (nilL ((Int × (Int × Int × Int × Int × Int × Int × Int × Int × Unit) × Int × Unit) × Int × Unit)) Bool.false) (5 : Int) (0
  : Int) (nilL Int))) (7 : Int)) (3 : Int) (0 : Int) (1 : Int) (nilL Int))).fst (Int.toNat (0 : Int)) (Ty.zero RepT)) ((5 : Int), (3 : Int), (0 : Int), ()) && Decidable.decide ((↑(List.length (outT (backD (outB (toldD
  (startB (outB (askD (mkB ((0 : Int), (1 : Int), (1 : Int), (0 : Int), (0 : Int), (9 : Int), (0 : Int), (0 : Int), (0 : Int), ()) (nilL (Int × Int × Unit)) (nilL Int) (nilL Int) noneF (nilL ((Int × (Int × Int × Int × Int
  × Int × Int × Int × Int × Unit) × Int × Unit) × Int × Unit)) Bool.false) (5 : Int) (0 : Int) (nilL Int))) (7 : Int)) (3 : Int) (0 : Int) (1 : Int) (nilL Int))) (5 : Int) (3 : Int) Bool.true (2 : Int) (nilL Int))).fst) :
  Int) = (1 : Int)) && Decidable.decide (Int.ofNat (0 : Nat) = (0 : Int)) && Decidable.decide ((↑(List.length (outB (backD (outB (toldD (startB (outB (askD (mkB ((0 : Int), (1 : Int), (1 : Int), (0 : Int), (0 : Int), (9 :
  Int), (0 : Int), (0 : Int), (0 : Int), ()) (nilL (Int × Int × Unit)) (nilL Int) (nilL Int) noneF (nilL ((Int × (Int × Int × Int × Int × Int × Int × Int × Int × Unit) × Int × Unit) × Int × Unit)) Bool.false) (5 : Int) (0
  : Int) (nilL Int))) (7 : Int)) (3 : Int) (0 : Int) (1 : Int) (nilL Int))) (5 : Int) (3 : Int) Bool.true (2 : Int) (nilL Int))).snd.fst) : Int) = (1 : Int)) && Decidable.decide ((List.getD (outB (backD (outB (toldD
  (startB (outB (askD (mkB ((0 : Int), (1 : Int), (1 : Int), (0 : Int), (0 : Int), (9 : Int), (0 : Int), (0 : Int), (0 : Int), ()) (nilL (Int × Int × Unit)) (nilL Int) (nilL Int) noneF (nilL ((Int × (Int × Int × Int × Int
  × Int × Int × Int × Int × Unit) × Int × Unit) × Int × Unit)) Bool.false) (5 : Int) (0 : Int) (nilL Int))) (7 : Int)) (3 : Int) (0 : Int) (1 : Int) (nilL Int))) (5 : Int) (3 : Int) Bool.true (2 : Int) (nilL
  Int))).snd.fst (Int.toNat (0 : Int)) (Ty.zero RestT)).fst = (3 : Int))) = Bool.true → szB (outB (backD (outB (toldD (startB (outB (askD (mkB ((0 : Int), (1 : Int), (1 : Int), (0 : Int), (0 : Int), (9 : Int), (0 : Int),
  (0 : Int), (0 : Int), ()) (nilL (Int × Int × Unit)) (nilL Int) (nilL Int) noneF (nilL ((Int × (Int × Int × Int × Int × Int × Int × Int × Int × Unit) × Int × Unit) × Int × Unit)) Bool.false) (5 : Int) (0 : Int) (nilL
  Int))) (7 : Int)) (3 : Int) (0 : Int) (1 : Int) (nilL Int))) (5 : Int) (3 : Int) Bool.true (2 : Int) (nilL Int))) = Bool.true) ∧ Wr ((Decidable.decide ((↑(List.length (outT (toldD (startB (outB (askD (mkB ((0 : Int), (1
  : Int), (1 : Int), (0 : Int), (0 : Int), (9 : Int), (0 : Int), (0 : Int), (0 : Int), ()) (nilL (Int × Int × Unit)) (nilL Int) (nilL Int) noneF (nilL ((Int × (Int × Int × Int × Int × Int × Int × Int × Int × Unit) × Int ×
  Unit) × Int × Unit)) Bool.false) (5 : Int) (0 : Int) (nilL Int))) (7 : Int)) (3 : Int) (0 : Int) (1 : Int) (nilL Int))).fst) : Int) = (1 : Int)) && Ty.eqb (Ty.cons (Ty.int IntKind.i64) (Ty.cons (Ty.int IntKind.i64)
  (Ty.cons (Ty.int IntKind.i64) Ty.unit))) (List.getD (outT (toldD (startB (outB (askD (mkB ((0 : Int), (1 : Int), (1 : Int), (0 : Int), (0 : Int), (9 : Int), (0 : Int), (0 : Int), (0 : Int), ()) (nilL (Int × Int × Unit))
  (nilL Int) (nilL Int) noneF (nilL ((Int × (Int × Int × Int × Int × Int × Int × Int × Int × Unit) × Int × Unit) × Int × Unit)) Bool.false) (5 : Int) (0 : Int) (nilL Int))) (7 : Int)) (3 : Int) (0 : Int) (1 : Int) (nilL
  Int))).fst (Int.toNat (0 : Int)) (Ty.zero RepT)) ((5 : Int), (3 : Int), (0 : Int), ()) && Decidable.decide ((↑(List.length (outT (backD (outB (toldD (startB (outB (askD (mkB ((0 : Int), (1 : Int), (1 : Int), (0 : Int),
  (0 : Int), (9 : Int), (0 : Int), (0 : Int), (0 : Int), ()) (nilL (Int × Int × Unit)) (nilL Int) (nilL Int) noneF (nilL ((Int × (Int × Int × Int × Int × Int × Int × Int × Int × Unit) × Int × Unit) × Int × Unit))
  Bool.false) (5 : Int) (0 : Int) (nilL Int))) (7 : Int)) (3 : Int) (0 : Int) (1 : Int) (nilL Int))) (5 : Int) (3 : Int) Bool.true (2 : Int) (nilL Int))).fst) : Int) = (1 : Int)) && Decidable.decide (Int.ofNat (0 : Nat) =
  (0 : Int)) && Decidable.decide ((↑(List.length (outB (backD (outB (toldD (startB (outB (askD (mkB ((0 : Int), (1 : Int), (1 : Int), (0 : Int), (0 : Int), (9 : Int), (0 : Int), (0 : Int), (0 : Int), ()) (nilL (Int × Int
  × Unit)) (nilL Int) (nilL Int) noneF (nilL ((Int × (Int × Int × Int × Int × Int × Int × Int × Int × Unit) × Int × Unit) × Int × Unit)) Bool.false) (5 : Int) (0 : Int) (nilL Int))) (7 : Int)) (3 : Int) (0 : Int) (1 :
  Int) (nilL Int))) (5 : Int) (3 : Int) Bool.true (2 : Int) (nilL Int))).snd.fst) : Int) = (1 : Int)) && Decidable.decide ((List.getD (outB (backD (outB (toldD (startB (outB (askD (mkB ((0 : Int), (1 : Int), (1 : Int), (0
  : Int), (0 : Int), (9 : Int), (0 : Int), (0 : Int), (0 : Int), ()) (nilL (Int × Int × Unit)) (nilL Int) (nilL Int) noneF (nilL ((Int × (Int × Int × Int × Int × Int × Int × Int × Int × Unit) × Int × Unit) × Int × Unit))
  Bool.false) (5 : Int) (0 : Int) (nilL Int))) (7 : Int)) (3 : Int) (0 : Int) (1 : Int) (nilL Int))) (5 : Int) (3 : Int) Bool.true (2 : Int) (nilL Int))).snd.fst (Int.toNat (0 : Int)) (Ty.zero RestT)).fst = (3 : Int)) &&
  Decidable.decide (ckE (outB (backD (outB (toldD (startB (outB (askD (mkB ((0 : Int), (1 : Int), (1 : Int), (0 : Int), (0 : Int), (9 : Int), (0 : Int), (0 : Int), (0 : Int), ()) (nilL (Int × Int × Unit)) (nilL Int) (nilL
  Int) noneF (nilL ((Int × (Int × Int × Int × Int × Int × Int × Int × Int × Unit) × Int × Unit) × Int × Unit)) Bool.false) (5 : Int) (0 : Int) (nilL Int))) (7 : Int)) (3 : Int) (0 : Int) (1 : Int) (nilL Int))) (5 : Int)
  (3 : Int) Bool.true (2 : Int) (nilL Int))) = (0 : Int))) = Bool.true → Bool.true = Bool.true) ∧ Wr ((Decidable.decide ((↑(List.length (outT (toldD (startB (outB (askD (mkB ((0 : Int), (1 : Int), (1 : Int), (0 : Int), (0
  : Int), (9 : Int), (0 : Int), (0 : Int), (0 : Int), ()) (nilL (Int × Int × Unit)) (nilL Int) (nilL Int) noneF (nilL ((Int × (Int × Int × Int × Int × Int × Int × Int × Int × Unit) × Int × Unit) × Int × Unit)) Bool.false)
  (5 : Int) (0 : Int) (nilL Int))) (7 : Int)) (3 : Int) (0 : Int) (1 : Int) (nilL Int))).fst) : Int) = (1 : Int)) && Ty.eqb (Ty.cons (Ty.int IntKind.i64) (Ty.cons (Ty.int IntKind.i64) (Ty.cons (Ty.int IntKind.i64)
  Ty.unit))) (List.getD (outT (toldD (startB (outB (askD (mkB ((0 : Int), (1 : Int), (1 : Int), (0 : Int), (0 : Int), (9 : Int), (0 : Int), (0 : Int), (0 : Int), ()) (nilL (Int × Int × Unit)) (nilL Int) (nilL Int) noneF
  (nilL ((Int × (Int × Int × Int × Int × Int × Int × Int × Int × Unit) × Int × Unit) × Int × Unit)) Bool.false) (5 : Int) (0 : Int) (nilL Int))) (7 : Int)) (3 : Int) (0 : Int) (1 : Int) (nilL Int))).fst (Int.toNat (0 :
  Int)) (Ty.zero RepT)) ((5 : Int), (3 : Int), (0 : Int), ()) && Decidable.decide ((↑(List.length (outT (backD (outB (toldD (startB (outB (askD (mkB ((0 : Int), (1 : Int), (1 : Int), (0 : Int), (0 : Int), (9 : Int), (0 :
  Int), (0 : Int), (0 : Int), ()) (nilL (Int × Int × Unit)) (nilL Int) (nilL Int) noneF (nilL ((Int × (Int × Int × Int × Int × Int × Int × Int × Int × Unit) × Int × Unit) × Int × Unit)) Bool.false) (5 : Int) (0 : Int)
  (nilL Int))) (7 : Int)) (3 : Int) (0 : Int) (1 : Int) (nilL Int))) (5 : Int) (3 : Int) Bool.true (2 : Int) (nilL Int))).fst) : Int) = (1 : Int)) && Decidable.decide (Int.ofNat (0 : Nat) = (0 : Int)) && Decidable.decide
  ((↑(List.length (outB (backD (outB (toldD (startB (outB (askD (mkB ((0 : Int), (1 : Int), (1 : Int), (0 : Int), (0 : Int), (9 : Int), (0 : Int), (0 : Int), (0 : Int), ()) (nilL (Int × Int × Unit)) (nilL Int) (nilL Int)
  noneF (nilL ((Int × (Int × Int × Int × Int × Int × Int × Int × Int × Unit) × Int × Unit) × Int × Unit)) Bool.false) (5 : Int) (0 : Int) (nilL Int))) (7 : Int)) (3 : Int) (0 : Int) (1 : Int) (nilL Int))) (5 : Int) (3 :
  Int) Bool.true (2 : Int) (nilL Int))).snd.fst) : Int) = (1 : Int)) && Decidable.decide ((List.getD (outB (backD (outB (toldD (startB (outB (askD (mkB ((0 : Int), (1 : Int), (1 : Int), (0 : Int), (0 : Int), (9 : Int), (0
  : Int), (0 : Int), (0 : Int), ()) (nilL (Int × Int × Unit)) (nilL Int) (nilL Int) noneF (nilL ((Int × (Int × Int × Int × Int × Int × Int × Int × Int × Unit) × Int × Unit) × Int × Unit)) Bool.false) (5 : Int) (0 : Int)
  (nilL Int))) (7 : Int)) (3 : Int) (0 : Int) (1 : Int) (nilL Int))) (5 : Int) (3 : Int) Bool.true (2 : Int) (nilL Int))).snd.fst (Int.toNat (0 : Int)) (Ty.zero RestT)).fst = (3 : Int)) && Decidable.decide (ckE (outB
  (backD (outB (toldD (startB (outB (askD (mkB ((0 : Int), (1 : Int), (1 : Int), (0 : Int), (0 : Int), (9 : Int), (0 : Int), (0 : Int), (0 : Int), ()) (nilL (Int × Int × Unit)) (nilL Int) (nilL Int) noneF (nilL ((Int ×
  (Int × Int × Int × Int × Int × Int × Int × Int × Unit) × Int × Unit) × Int × Unit)) Bool.false) (5 : Int) (0 : Int) (nilL Int))) (7 : Int)) (3 : Int) (0 : Int) (1 : Int) (nilL Int))) (5 : Int) (3 : Int) Bool.true (2 :
  Int) (nilL Int))) = (0 : Int)) && !((outB (backD (outB (toldD (startB (outB (askD (mkB ((0 : Int), (1 : Int), (1 : Int), (0 : Int), (0 : Int), (9 : Int), (0 : Int), (0 : Int), (0 : Int), ()) (nilL (Int × Int × Unit))
  (nilL Int) (nilL Int) noneF (nilL ((Int × (Int × Int × Int × Int × Int × Int × Int × Int × Unit) × Int × Unit) × Int × Unit)) Bool.false) (5 : Int) (0 : Int) (nilL Int))) (7 : Int)) (3 : Int) (0 : Int) (1 : Int) (nilL
  Int))) (5 : Int) (3 : Int) Bool.true (2 : Int) (nilL Int))).snd.snd.snd.snd.snd.snd.fst && !onF (outB (backD (outB (toldD (startB (outB (askD (mkB ((0 : Int), (1 : Int), (1 : Int), (0 : Int), (0 : Int), (9 : Int), (0 :
  Int), (0 : Int), (0 : Int), ()) (nilL (Int × Int × Unit)) (nilL Int) (nilL Int) noneF (nilL ((Int × (Int × Int × Int × Int × Int × Int × Int × Int × Unit) × Int × Unit) × Int × Unit)) Bool.false) (5 : Int) (0 : Int)
  (nilL Int))) (7 : Int)) (3 : Int) (0 : Int) (1 : Int) (nilL Int))) (5 : Int) (3 : Int) Bool.true (2 : Int) (nilL Int))).snd.snd.snd.snd.fst)) = Bool.true → szB (outB (backD (outB (toldD (startB (outB (askD (mkB ((0 :
  Int), (1 : Int), (1 : Int), (0 : Int), (0 : Int), (9 : Int), (0 : Int), (0 : Int), (0 : Int), ()) (nilL (Int × Int × Unit)) (nilL Int) (nilL Int) noneF (nilL ((Int × (Int × Int × Int × Int × Int × Int × Int × Int ×
  Unit) × Int × Unit) × Int × Unit)) Bool.false) (5 : Int) (0 : Int) (nilL Int))) (7 : Int)) (3 : Int) (0 : Int) (1 : Int) (nilL Int))) (5 : Int) (3 : Int) Bool.true (2 : Int) (nilL Int))) = Bool.true) ∧ (Decidable.decide
  ((↑(List.length (outT (toldD (startB (outB (askD (mkB ((0 : Int), (1 : Int), (1 : Int), (0 : Int), (0 : Int), (9 : Int), (0 : Int), (0 : Int), (0 : Int), ()) (nilL (Int × Int × Unit)) (nilL Int) (nilL Int) noneF (nilL
  ((Int × (Int × Int × Int × Int × Int × Int × Int × Int × Unit) × Int × Unit) × Int × Unit)) Bool.false) (5 : Int) (0 : Int) (nilL Int))) (7 : Int)) (3 : Int) (0 : Int) (1 : Int) (nilL Int))).fst) : Int) = (1 : Int)) &&
  Ty.eqb (Ty.cons (Ty.int IntKind.i64) (Ty.cons (Ty.int IntKind.i64) (Ty.cons (Ty.int IntKind.i64) Ty.unit))) (List.getD (outT (toldD (startB (outB (askD (mkB ((0 : Int), (1 : Int), (1 : Int), (0 : Int), (0 : Int), (9 :
  Int), (0 : Int), (0 : Int), (0 : Int), ()) (nilL (Int × Int × Unit)) (nilL Int) (nilL Int) noneF (nilL ((Int × (Int × Int × Int × Int × Int × Int × Int × Int × Unit) × Int × Unit) × Int × Unit)) Bool.false) (5 : Int) (0
  : Int) (nilL Int))) (7 : Int)) (3 : Int) (0 : Int) (1 : Int) (nilL Int))).fst (Int.toNat (0 : Int)) (Ty.zero RepT)) ((5 : Int), (3 : Int), (0 : Int), ()) && Decidable.decide ((↑(List.length (outT (backD (outB (toldD
  (startB (outB (askD (mkB ((0 : Int), (1 : Int), (1 : Int), (0 : Int), (0 : Int), (9 : Int), (0 : Int), (0 : Int), (0 : Int), ()) (nilL (Int × Int × Unit)) (nilL Int) (nilL Int) noneF (nilL ((Int × (Int × Int × Int × Int
  × Int × Int × Int × Int × Unit) × Int × Unit) × Int × Unit)) Bool.false) (5 : Int) (0 : Int) (nilL Int))) (7 : Int)) (3 : Int) (0 : Int) (1 : Int) (nilL Int))) (5 : Int) (3 : Int) Bool.true (2 : Int) (nilL Int))).fst) :
  Int) = (1 : Int)) && Decidable.decide (Int.ofNat (0 : Nat) = (0 : Int)) && Decidable.decide ((↑(List.length (outB (backD (outB (toldD (startB (outB (askD (mkB ((0 : Int), (1 : Int), (1 : Int), (0 : Int), (0 : Int), (9 :
  Int), (0 : Int), (0 : Int), (0 : Int), ()) (nilL (Int × Int × Unit)) (nilL Int) (nilL Int) noneF (nilL ((Int × (Int × Int × Int × Int × Int × Int × Int × Int × Unit) × Int × Unit) × Int × Unit)) Bool.false) (5 : Int) (0
  : Int) (nilL Int))) (7 : Int)) (3 : Int) (0 : Int) (1 : Int) (nilL Int))) (5 : Int) (3 : Int) Bool.true (2 : Int) (nilL Int))).snd.fst) : Int) = (1 : Int)) && Decidable.decide ((List.getD (outB (backD (outB (toldD
  (startB (outB (askD (mkB ((0 : Int), (1 : Int), (1 : Int), (0 : Int), (0 : Int), (9 : Int), (0 : Int), (0 : Int), (0 : Int), ()) (nilL (Int × Int × Unit)) (nilL Int) (nilL Int) noneF (nilL ((Int × (Int × Int × Int × Int
  × Int × Int × Int × Int × Unit) × Int × Unit) × Int × Unit)) Bool.false) (5 : Int) (0 : Int) (nilL Int))) (7 : Int)) (3 : Int) (0 : Int) (1 : Int) (nilL Int))) (5 : Int) (3 : Int) Bool.true (2 : Int) (nilL
  Int))).snd.fst (Int.toNat (0 : Int)) (Ty.zero RestT)).fst = (3 : Int)) && Decidable.decide (ckE (outB (backD (outB (toldD (startB (outB (askD (mkB ((0 : Int), (1 : Int), (1 : Int), (0 : Int), (0 : Int), (9 : Int), (0 :
  Int), (0 : Int), (0 : Int), ()) (nilL (Int × Int × Unit)) (nilL Int) (nilL Int) noneF (nilL ((Int × (Int × Int × Int × Int × Int × Int × Int × Int × Unit) × Int × Unit) × Int × Unit)) Bool.false) (5 : Int) (0 : Int)
  (nilL Int))) (7 : Int)) (3 : Int) (0 : Int) (1 : Int) (nilL Int))) (5 : Int) (3 : Int) Bool.true (2 : Int) (nilL Int))) = (0 : Int)) && !((outB (backD (outB (toldD (startB (outB (askD (mkB ((0 : Int), (1 : Int), (1 :
  Int), (0 : Int), (0 : Int), (9 : Int), (0 : Int), (0 : Int), (0 : Int), ()) (nilL (Int × Int × Unit)) (nilL Int) (nilL Int) noneF (nilL ((Int × (Int × Int × Int × Int × Int × Int × Int × Int × Unit) × Int × Unit) × Int
  × Unit)) Bool.false) (5 : Int) (0 : Int) (nilL Int))) (7 : Int)) (3 : Int) (0 : Int) (1 : Int) (nilL Int))) (5 : Int) (3 : Int) Bool.true (2 : Int) (nilL Int))).snd.snd.snd.snd.snd.snd.fst && !onF (outB (backD (outB
  (toldD (startB (outB (askD (mkB ((0 : Int), (1 : Int), (1 : Int), (0 : Int), (0 : Int), (9 : Int), (0 : Int), (0 : Int), (0 : Int), ()) (nilL (Int × Int × Unit)) (nilL Int) (nilL Int) noneF (nilL ((Int × (Int × Int ×
  Int × Int × Int × Int × Int × Int × Unit) × Int × Unit) × Int × Unit)) Bool.false) (5 : Int) (0 : Int) (nilL Int))) (7 : Int)) (3 : Int) (0 : Int) (1 : Int) (nilL Int))) (5 : Int) (3 : Int) Bool.true (2 : Int) (nilL
  Int))).snd.snd.snd.snd.fst) && Decidable.decide ((↑(List.length (ownsL (outB (backD (outB (toldD (startB (outB (askD (mkB ((0 : Int), (1 : Int), (1 : Int), (0 : Int), (0 : Int), (9 : Int), (0 : Int), (0 : Int), (0 :
  Int), ()) (nilL (Int × Int × Unit)) (nilL Int) (nilL Int) noneF (nilL ((Int × (Int × Int × Int × Int × Int × Int × Int × Int × Unit) × Int × Unit) × Int × Unit)) Bool.false) (5 : Int) (0 : Int) (nilL Int))) (7 : Int))
  (3 : Int) (0 : Int) (1 : Int) (nilL Int))) (5 : Int) (3 : Int) Bool.true (2 : Int) (nilL Int))))) : Int) = (1 : Int)), ()) = (Bool.true, ())) := by kernel_rfl
end Go.Proofs.Ytdkcgcgefgeooaa.Bk.B
set_option linter.all false
namespace Go.Proofs.Ytdkcgcgefgeooaa.Bk.B
open Go Go.Eng Go.RowKit
set_option maxRecDepth 100000
set_option maxHeartbeats 16000000
theorem v8 : Vc g8 300 Try.f8 cWakes := by
  constructor
  rw [v8_eq]
  simp only [Wr_iff]
  intro x _
  repeat' with_reducible apply And.intro
  all_goals first | rfl | exact fun _ => rfl | exact fun _ => by decide | decide
end Go.Proofs.Ytdkcgcgefgeooaa.Bk.B
namespace Go.Proofs.Ytdkcgcgefgeooaa.Bk.B
open Go Go.Eng 
set_option maxRecDepth 100000
theorem val8 : Valid Try.prog GW 8 cWakes := mkValid gws Tb.mix Tb.tab_ok Tb.eqs_ok g8 rfl (allV_cons val10 (allV_cons val11 (allV_cons val13 (allV_cons val15 (allV_cons val16 (allV_cons val17 (allV_cons val18 (allV_cons val19 (allV_cons val26 allV_nil))))))))) allI_nil Try.func8 (by kernel_rfl) v8
end Go.Proofs.Ytdkcgcgefgeooaa.Bk.B
set_option maxRecDepth 100000
namespace Go.Proofs.Ytdkcgcgefgeooaa.Bk
open Go Go.Eng
/-! the same functions, that read the row of dead sockets alone -/
def cTopB : BCon := { a := .cons (.sl RestT) (.cons I64 (.cons I64 .unit)), t := I64, r := .cons I64 (.cons (.sl RestT) (.cons IL (.cons .bool .unit))), pre := fun x _ => topOk x.1 = true, F := fun x dead => (topS x.2.1 x.2.2.1 dead x.1, (topR x.2.1 x.2.2.1 dead x.1, (topO x.2.1 x.2.2.1 dead x.1, (topK x.2.1 x.2.2.1 dead x.1, ())))) }
def cSiftB : BCon := { a := .cons (.sl RestT) (.cons I64 (.cons I64 .unit)), t := I64, r := .cons (.sl RestT) (.cons IL .unit), pre := fun x _ => topOk x.1 = true, F := fun x dead => (sftG x.2.1 x.2.2.1 dead x.1, (sftO x.2.1 x.2.2.1 dead x.1, ())) }
def cAskB : BCon := { a := .cons BookT (.cons I64 (.cons I64 .unit)), t := I64, r := .cons BookT (.cons TurnT .unit), pre := fun x _ => szB x.1 = true, F := fun x dead => (outB (askD x.1 x.2.1 x.2.2.1 dead), (outT (askD x.1 x.2.1 x.2.2.1 dead), ())) }
def cBackB : BCon := { a := .cons BookT (.cons I64 (.cons I64 (.cons .bool (.cons I64 .unit)))), t := I64, r := .cons BookT (.cons TurnT .unit), pre := fun x _ => szB x.1 = true, F := fun x dead => (outB (backD x.1 x.2.1 x.2.2.1 x.2.2.2.1 x.2.2.2.2.1 dead), (outT (backD x.1 x.2.1 x.2.2.1 x.2.2.2.1 x.2.2.2.2.1 dead), ())) }
def cToldB : BCon := { a := .cons BookT (.cons I64 (.cons I64 (.cons (.sl AdT) (.cons I64 .unit)))), t := I64, r := .cons BookT (.cons TurnT .unit), pre := fun x _ => (szB x.1 && decide (List.length (α := Ad) x.2.2.2.1 = 0)) = true, F := fun x dead => (outB (toldD x.1 x.2.1 x.2.2.1 x.2.2.2.2.1 dead), (outT (toldD x.1 x.2.1 x.2.2.1 x.2.2.2.2.1 dead), ())) }
def cOldB : BCon := { a := .cons BookT (.cons I64 .unit), t := I64, r := .cons BookT (.cons TurnT .unit), pre := fun x _ => szB x.1 = true, F := fun x dead => (outB (oldD x.1 x.2.1 dead), (outT (oldD x.1 x.2.1 dead), ())) }
def sfB : LoopAnn where
  α := Int × List Rs × List Int
  keep := [1, 2, 3, 10, 17, 18]
  okeep := [0, 1, 2, 3]
  nxt := 2500
  env := fun _ x => [(19, .dat I64 x.1), (8, .own 2000), (9, .own 2001)]
  own := fun _ x => [(2000, .row 68 RestT x.2.1), (2001, .row 3 I64 x.2.2)]
  inv := fun s x => SfI (bDat I64 s 1).out (bDat I64 s 2).out (bRow I64 s 3).out (bDat (.sl RestT) s 17).out x.1 x.2.1 x.2.2
  mu := fun s x => List.length (α := Rs) (bDat (.sl RestT) s 17).out - x.1.toNat
  pick := some fun _ s => ((bDat I64 s 19).out, (bRow RestT s 8).out, (bRow I64 s 9).out)
end Go.Proofs.Ytdkcgcgefgeooaa.Bk
namespace Go.Proofs.Ytdkcgcgefgeooaa.Bk.B
open Go Go.Eng 
set_option maxRecDepth 100000
noncomputable def g68 : Cfg := { tab := Tb.tab, cons := [(78, cHas)], inls := [(75, Try.f75), (85, Try.f85), (86, Try.f86), (102, Try.f102), (103, Try.f103)], loops := [(3, sfB)], cuts := [], unroll := false, arrs := [], keys := [] }
noncomputable def g42 : Cfg := { tab := Tb.tab, cons := [(70, cStarts)], bcons := [(68, cSiftB)], inls := [(27, Try.f27), (29, Try.f29), (45, Try.f45), (49, Try.f49), (50, Try.f50), (57, Try.f57), (58, Try.f58)], loops := [], cuts := [], unroll := false, arrs := [], keys := [] }
noncomputable def g15 : Cfg := { tab := Tb.tab, cons := [(61, (cClip I64)), (62, cJoin), (70, cStarts)], bcons := [(59, cTopB)], inls := [(27, Try.f27), (29, Try.f29), (36, Try.f36), (45, Try.f45), (49, Try.f49), (50, Try.f50), (57, Try.f57), (58, Try.f58), (60, Try.f60)], loops := [], cuts := [], unroll := false, arrs := [], keys := [] }
noncomputable def g16 : Cfg := { tab := Tb.tab, cons := [(46, cIdx), (48, (cClone 3 8 I64)), (61, (cClip I64)), (70, cStarts), (71, cPart), (78, cHas), (79, (cClip RestT))], mcons := [(47, mDel)], inls := [(27, Try.f27), (29, Try.f29), (37, Try.f37), (45, Try.f45), (49, Try.f49), (50, Try.f50), (57, Try.f57), (58, Try.f58), (60, Try.f60), (63, Try.f63), (64, Try.f64)], loops := [], cuts := [], unroll := false, arrs := [], keys := [] }
noncomputable def g17 : Cfg := { tab := Tb.tab, cons := [(48, (cClone 3 8 I64)), (61, (cClip I64)), (65, cEnd), (66, cNote), (70, cStarts), (71, cPart), (78, cHas), (79, (cClip RestT))], inls := [(27, Try.f27), (29, Try.f29), (38, Try.f38), (45, Try.f45), (49, Try.f49), (50, Try.f50), (56, Try.f56), (57, Try.f57), (58, Try.f58), (60, Try.f60), (63, Try.f63), (64, Try.f64)], loops := [(570001, alA)], cuts := [], unroll := false, arrs := [], keys := [] }
end Go.Proofs.Ytdkcgcgefgeooaa.Bk.B
namespace Go.Proofs.Ytdkcgcgefgeooaa.Bk.B
open Go Go.Eng 
set_option maxRecDepth 100000
theorem v68_eq : vcFnB g68 300 Try.f68 cSiftB = ( ∀ (x : List (Int × Int × Unit) × Int × Int × Unit) (xs : List Int), Wr (topOk x.fst = Bool.true) → (Wr (SfI x.snd.fst x.snd.snd.fst xs x.fst (0 : Int) (nilL (Int × Int × Unit)) (nilL Int)) ∧ Wr ((0 : Int) = (0 : Int)) ∧
  Wr (x.snd.fst = x.snd.fst) ∧ Wr (x.snd.snd.fst = x.snd.snd.fst) ∧ Wr (x.fst = x.fst) ∧ Wr ((↑(List.length x.fst) : Int) = (↑(List.length x.fst) : Int)) ∧ Wr (nilL (Int × Int × Unit) = nilL (Int × Int × Unit)) ∧ Wr (nilL
  Int = nilL Int) ∧ Wr (xs = xs) ∧ Wr (x.snd.fst = x.snd.fst) ∧ Wr (x.snd.snd.fst = x.snd.snd.fst)) ∧ ∀ (x_1 : Int × List (Int × Int × Unit) × List Int), Wr (SfI x.snd.fst x.snd.snd.fst xs x.fst x_1.fst x_1.snd.fst
  x_1.snd.snd) → bcase (Decidable.decide (x_1.fst < (↑(List.length x.fst) : Int))) (Wr ((0 : Int) ≤ x_1.fst) ∧ Wr (x_1.fst < (↑(List.length x.fst) : Int)) ∧ Wr (Bool.true = Bool.true) ∧ Wr (Bool.true = Bool.true) ∧ bcase
  (!hasN xs (List.getD x.fst (Int.toNat x_1.fst) (Ty.zero RestT)).fst) (bcase (Bool.false || Decidable.decide (Min.min (Max.max x.snd.snd.fst (0 : Int)) (1073741824 : Int) ≥ Min.min (Max.max (IntKind.wrap IntKind.i64
  (Min.min (Max.max (List.getD x.fst (Int.toNat x_1.fst) (Ty.zero RestT)).snd.fst (0 : Int)) (1073741824 : Int) + Min.min (Max.max x.snd.fst (0 : Int)) (1073741824 : Int))) (0 : Int)) (1073741824 : Int))) (Wr
  ((List.length x_1.snd.snd + List.length ((List.getD x.fst (Int.toNat x_1.fst) (Ty.zero RestT)).fst :: nilL Int)) * (8 : Nat) ≤ (140737488355328 : Nat)) ∧ Wr (SfI x.snd.fst x.snd.snd.fst xs x.fst (IntKind.wrap
  IntKind.i64 (x_1.fst + (1 : Int))) x_1.snd.fst (x_1.snd.snd ++ (List.getD x.fst (Int.toNat x_1.fst) (Ty.zero RestT)).fst :: nilL Int)) ∧ Wr (List.length x.fst - Int.toNat (IntKind.wrap IntKind.i64 (x_1.fst + (1 : Int)))
  < List.length x.fst - Int.toNat x_1.fst) ∧ Wr (IntKind.wrap IntKind.i64 (x_1.fst + (1 : Int)) = IntKind.wrap IntKind.i64 (x_1.fst + (1 : Int))) ∧ Wr (x.snd.fst = x.snd.fst) ∧ Wr (x.snd.snd.fst = x.snd.snd.fst) ∧ Wr
  (x.fst = x.fst) ∧ Wr ((↑(List.length x.fst) : Int) = (↑(List.length x.fst) : Int)) ∧ Wr (x_1.snd.fst = x_1.snd.fst) ∧ Wr (x_1.snd.snd ++ (List.getD x.fst (Int.toNat x_1.fst) (Ty.zero RestT)).fst :: nilL Int =
  x_1.snd.snd ++ (List.getD x.fst (Int.toNat x_1.fst) (Ty.zero RestT)).fst :: nilL Int) ∧ Wr (xs = xs) ∧ Wr (x.snd.fst = x.snd.fst) ∧ Wr (x.snd.snd.fst = x.snd.snd.fst)) (Wr ((List.length x_1.snd.fst + List.length
  (List.getD x.fst (Int.toNat x_1.fst) (Ty.zero RestT) :: nilL (Int × Int × Unit))) * (16 : Nat) ≤ (140737488355328 : Nat)) ∧ Wr (SfI x.snd.fst x.snd.snd.fst xs x.fst (IntKind.wrap IntKind.i64 (x_1.fst + (1 : Int)))
  (x_1.snd.fst ++ List.getD x.fst (Int.toNat x_1.fst) (Ty.zero RestT) :: nilL (Int × Int × Unit)) x_1.snd.snd) ∧ Wr (List.length x.fst - Int.toNat (IntKind.wrap IntKind.i64 (x_1.fst + (1 : Int))) < List.length x.fst -
  Int.toNat x_1.fst) ∧ Wr (IntKind.wrap IntKind.i64 (x_1.fst + (1 : Int)) = IntKind.wrap IntKind.i64 (x_1.fst + (1 : Int))) ∧ Wr (x.snd.fst = x.snd.fst) ∧ Wr (x.snd.snd.fst = x.snd.snd.fst) ∧ Wr (x.fst = x.fst) ∧ Wr
  ((↑(List.length x.fst) : Int) = (↑(List.length x.fst) : Int)) ∧ Wr (x_1.snd.fst ++ List.getD x.fst (Int.toNat x_1.fst) (Ty.zero RestT) :: nilL (Int × Int × Unit) = x_1.snd.fst ++ List.getD x.fst (Int.toNat x_1.fst)
  (Ty.zero RestT) :: nilL (Int × Int × Unit)) ∧ Wr (x_1.snd.snd = x_1.snd.snd) ∧ Wr (xs = xs) ∧ Wr (x.snd.fst = x.snd.fst) ∧ Wr (x.snd.snd.fst = x.snd.snd.fst))) (Wr ((List.length x_1.snd.snd + List.length ((List.getD
  x.fst (Int.toNat x_1.fst) (Ty.zero RestT)).fst :: nilL Int)) * (8 : Nat) ≤ (140737488355328 : Nat)) ∧ Wr (SfI x.snd.fst x.snd.snd.fst xs x.fst (IntKind.wrap IntKind.i64 (x_1.fst + (1 : Int))) x_1.snd.fst (x_1.snd.snd ++
  (List.getD x.fst (Int.toNat x_1.fst) (Ty.zero RestT)).fst :: nilL Int)) ∧ Wr (List.length x.fst - Int.toNat (IntKind.wrap IntKind.i64 (x_1.fst + (1 : Int))) < List.length x.fst - Int.toNat x_1.fst) ∧ Wr (IntKind.wrap
  IntKind.i64 (x_1.fst + (1 : Int)) = IntKind.wrap IntKind.i64 (x_1.fst + (1 : Int))) ∧ Wr (x.snd.fst = x.snd.fst) ∧ Wr (x.snd.snd.fst = x.snd.snd.fst) ∧ Wr (x.fst = x.fst) ∧ Wr ((↑(List.length x.fst) : Int) =
  (↑(List.length x.fst) : Int)) ∧ Wr (x_1.snd.fst = x_1.snd.fst) ∧ Wr (x_1.snd.snd ++ (List.getD x.fst (Int.toNat x_1.fst) (Ty.zero RestT)).fst :: nilL Int = x_1.snd.snd ++ (List.getD x.fst (Int.toNat x_1.fst) (Ty.zero
  RestT)).fst :: nilL Int) ∧ Wr (xs = xs) ∧ Wr (x.snd.fst = x.snd.fst) ∧ Wr (x.snd.snd.fst = x.snd.snd.fst))) ((x_1.snd.fst, x_1.snd.snd, ()) = (sftG x.snd.fst x.snd.snd.fst xs x.fst, sftO x.snd.fst x.snd.snd.fst xs
  x.fst, ()))) := by kernel_rfl
theorem v42_eq : vcFnB g42 300 Try.f42 cOldB = ( ∀ (x : ((Int × Int × Int × Int × Int × Int × Int × Int × Int × Unit) × List (Int × Int × Unit) × List Int × List Int × (Int × Bool × Int × Unit) × List ((Int × (Int × Int × Int × Int × Int × Int × Int × Int × Unit) × Int
  × Unit) × Int × Unit) × Bool × Unit) × Int × Unit) (xs : List Int), Wr (szB x.fst = Bool.true) → Wr (topOk x.fst.snd.fst = Bool.true) ∧ Wr (List.length (sftO x.fst.fst.snd.snd.snd.snd.snd.fst x.snd.fst xs x.fst.snd.fst)
  * (8 : Nat) ≤ (140737488355328 : Nat)) ∧ Wr ((!x.fst.snd.snd.snd.snd.snd.snd.fst) = Bool.true → Bool.true = Bool.true) ∧ ((x.fst.fst, sftG x.fst.fst.snd.snd.snd.snd.snd.fst x.snd.fst xs x.fst.snd.fst, x.fst.snd.snd),
  (nilL (Int × Int × Int × Unit), sftO x.fst.fst.snd.snd.snd.snd.snd.fst x.snd.fst xs x.fst.snd.fst, !x.fst.snd.snd.snd.snd.snd.snd.fst && startsF x.fst.snd.snd.snd.snd.fst, Bool.false, ()), ()) = (outB (oldD x.fst
  x.snd.fst xs), outT (oldD x.fst x.snd.fst xs), ())) := by kernel_rfl
theorem v15_eq : vcFnB g15 300 Try.f15 cAskB = ( ∀ (x : ((Int × Int × Int × Int × Int × Int × Int × Int × Int × Unit) × List (Int × Int × Unit) × List Int × List Int × (Int × Bool × Int × Unit) × List ((Int × (Int × Int × Int × Int × Int × Int × Int × Int × Unit) × Int
  × Unit) × Int × Unit) × Bool × Unit) × Int × Int × Unit) (xs : List Int), Wr (szB x.fst = Bool.true) → bcase x.fst.snd.snd.snd.snd.snd.snd.fst (Wr (List.length ((x.snd.fst, (-1 : Int), (240 : Int), ()) :: nilL (Int ×
  Int × Int × Unit)) * (24 : Nat) ≤ (140737488355328 : Nat)) ∧ Wr ((!x.fst.snd.snd.snd.snd.snd.snd.fst) = Bool.true → Bool.true = Bool.true) ∧ (x.fst, ((x.snd.fst, (-1 : Int), (240 : Int), ()) :: nilL (Int × Int × Int ×
  Unit), nilL Int, !x.fst.snd.snd.snd.snd.snd.snd.fst && startsF x.fst.snd.snd.snd.snd.fst, Bool.false, ()), ()) = (outB (askD x.fst x.snd.fst x.snd.snd.fst xs), outT (askD x.fst x.snd.fst x.snd.snd.fst xs), ())) (Wr
  (topOk x.fst.snd.fst = Bool.true) ∧ Wr (List.length (topO x.fst.fst.snd.snd.snd.snd.snd.fst x.snd.snd.fst xs x.fst.snd.fst) * (8 : Nat) ≤ (140737488355328 : Nat)) ∧ bcase (topK x.fst.fst.snd.snd.snd.snd.snd.fst
  x.snd.snd.fst xs x.fst.snd.fst) (Wr True ∧ Wr ((List.length x.fst.snd.snd.fst + List.length (topS x.fst.fst.snd.snd.snd.snd.snd.fst x.snd.snd.fst xs x.fst.snd.fst :: nilL Int)) * (8 : Nat) ≤ (140737488355328 : Nat)) ∧
  Wr ((0 : Nat) < List.length (topS x.fst.fst.snd.snd.snd.snd.snd.fst x.snd.snd.fst xs x.fst.snd.fst :: nilL Int)) ∧ Wr (List.length ((x.snd.fst, topS x.fst.fst.snd.snd.snd.snd.snd.fst x.snd.snd.fst xs x.fst.snd.fst, (0 :
  Int), ()) :: nilL (Int × Int × Int × Unit)) * (24 : Nat) ≤ (140737488355328 : Nat)) ∧ Wr ((!x.fst.snd.snd.snd.snd.snd.snd.fst) = Bool.true → Bool.true = Bool.true) ∧ ((x.fst.fst, topR x.fst.fst.snd.snd.snd.snd.snd.fst
  x.snd.snd.fst xs x.fst.snd.fst, x.fst.snd.snd.fst ++ topS x.fst.fst.snd.snd.snd.snd.snd.fst x.snd.snd.fst xs x.fst.snd.fst :: nilL Int, x.fst.snd.snd.snd), ((x.snd.fst, topS x.fst.fst.snd.snd.snd.snd.snd.fst
  x.snd.snd.fst xs x.fst.snd.fst, (0 : Int), ()) :: nilL (Int × Int × Int × Unit), topO x.fst.fst.snd.snd.snd.snd.snd.fst x.snd.snd.fst xs x.fst.snd.fst, !x.fst.snd.snd.snd.snd.snd.snd.fst && startsF
  x.fst.snd.snd.snd.snd.fst, Bool.false, ()), ()) = (outB (askD x.fst x.snd.fst x.snd.snd.fst xs), outT (askD x.fst x.snd.fst x.snd.snd.fst xs), ())) (bcase (Decidable.decide ((↑(List.length x.fst.snd.snd.snd.fst) : Int)
  ≥ x.fst.fst.snd.snd.fst)) (Wr (List.length ((x.snd.fst, (-1 : Int), (230 : Int), ()) :: nilL (Int × Int × Int × Unit)) * (24 : Nat) ≤ (140737488355328 : Nat)) ∧ Wr ((!x.fst.snd.snd.snd.snd.snd.snd.fst) = Bool.true →
  Bool.true = Bool.true) ∧ ((x.fst.fst, topR x.fst.fst.snd.snd.snd.snd.snd.fst x.snd.snd.fst xs x.fst.snd.fst, x.fst.snd.snd), ((x.snd.fst, (-1 : Int), (230 : Int), ()) :: nilL (Int × Int × Int × Unit), topO
  x.fst.fst.snd.snd.snd.snd.snd.fst x.snd.snd.fst xs x.fst.snd.fst, !x.fst.snd.snd.snd.snd.snd.snd.fst && startsF x.fst.snd.snd.snd.snd.fst, Bool.false, ()), ()) = (outB (askD x.fst x.snd.fst x.snd.snd.fst xs), outT (askD
  x.fst x.snd.fst x.snd.snd.fst xs), ())) (Wr True ∧ Wr ((List.length x.fst.snd.snd.snd.fst + List.length (x.snd.fst :: nilL Int)) * (8 : Nat) ≤ (140737488355328 : Nat)) ∧ Wr ((0 : Nat) < List.length (x.snd.fst :: nilL
  Int)) ∧ Wr ((Decidable.decide (x.fst.snd.snd.snd.snd.fst.snd.snd.fst ≤ (1152921504606846976 : Ty.El I64)) && Decidable.decide (List.length (x.snd.fst :: nilL Int) = (1 : Nat))) = Bool.true) ∧ Wr
  ((!x.fst.snd.snd.snd.snd.snd.snd.fst) = Bool.true → Bool.true = Bool.true) ∧ ((x.fst.fst, topR x.fst.fst.snd.snd.snd.snd.snd.fst x.snd.snd.fst xs x.fst.snd.fst, x.fst.snd.snd.fst, x.fst.snd.snd.snd.fst ++ x.snd.fst ::
  nilL Int, joinF x.fst.snd.snd.snd.snd.fst, x.fst.snd.snd.snd.snd.snd), (nilL (Int × Int × Int × Unit), topO x.fst.fst.snd.snd.snd.snd.snd.fst x.snd.snd.fst xs x.fst.snd.fst, !x.fst.snd.snd.snd.snd.snd.snd.fst && startsF
  (joinF x.fst.snd.snd.snd.snd.fst), Bool.false, ()), ()) = (outB (askD x.fst x.snd.fst x.snd.snd.fst xs), outT (askD x.fst x.snd.fst x.snd.snd.fst xs), ()))))) := by kernel_rfl
theorem v16_eq : vcFnB g16 300 Try.f16 cBackB = ( ∀ (x : ((Int × Int × Int × Int × Int × Int × Int × Int × Int × Unit) × List (Int × Int × Unit) × List Int × List Int × (Int × Bool × Int × Unit) × List ((Int × (Int × Int × Int × Int × Int × Int × Int × Int × Unit) × Int
  × Unit) × Int × Unit) × Bool × Unit) × Int × Int × Bool × Int × Unit) (xs : List Int), Wr (szB x.fst = Bool.true) → Wr (Bool.true = Bool.true) ∧ bcase x.fst.snd.snd.snd.snd.snd.snd.fst (Wr (List.length ((x.snd.fst, (-1
  : Int), (240 : Int), ()) :: nilL (Int × Int × Int × Unit)) * (24 : Nat) ≤ (140737488355328 : Nat)) ∧ Wr ((!x.fst.snd.snd.snd.snd.snd.snd.fst) = Bool.true → Bool.true = Bool.true) ∧ (x.fst, ((x.snd.fst, (-1 : Int), (240
  : Int), ()) :: nilL (Int × Int × Int × Unit), nilL Int, !x.fst.snd.snd.snd.snd.snd.snd.fst && startsF x.fst.snd.snd.snd.snd.fst, Bool.false, ()), ()) = (outB (backD x.fst x.snd.fst x.snd.snd.fst x.snd.snd.snd.fst
  x.snd.snd.snd.snd.fst xs), outT (backD x.fst x.snd.fst x.snd.snd.fst x.snd.snd.snd.fst x.snd.snd.snd.snd.fst xs), ())) (bcase (Decidable.decide (idxN x.snd.snd.fst x.fst.snd.snd.fst < (0 : Int))) (Wr (List.length
  ((x.snd.fst, (-1 : Int), (80 : Int), ()) :: nilL (Int × Int × Int × Unit)) * (24 : Nat) ≤ (140737488355328 : Nat)) ∧ Wr ((!x.fst.snd.snd.snd.snd.snd.snd.fst) = Bool.true → Bool.true = Bool.true) ∧ (x.fst, ((x.snd.fst,
  (-1 : Int), (80 : Int), ()) :: nilL (Int × Int × Int × Unit), nilL Int, !x.fst.snd.snd.snd.snd.snd.snd.fst && startsF x.fst.snd.snd.snd.snd.fst, Bool.false, ()), ()) = (outB (backD x.fst x.snd.fst x.snd.snd.fst
  x.snd.snd.snd.fst x.snd.snd.snd.snd.fst xs), outT (backD x.fst x.snd.fst x.snd.snd.fst x.snd.snd.snd.fst x.snd.snd.snd.snd.fst xs), ())) (Wr (Decidable.decide (List.length x.fst.snd.snd.fst * (8 : Nat) ≤
  (140737488355328 : Nat)) = Bool.true) ∧ Wr ((0 : Ty.El I64) ≤ idxN x.snd.snd.fst x.fst.snd.snd.fst ∧ idxN x.snd.snd.fst x.fst.snd.snd.fst ≤ IntKind.wrap IntKind.i64 (idxN x.snd.snd.fst x.fst.snd.snd.fst + (1 : Int)) ∧
  IntKind.wrap IntKind.i64 (idxN x.snd.snd.fst x.fst.snd.snd.fst + (1 : Int)) ≤ (↑(List.length x.fst.snd.snd.fst) : Int) ∧ List.length x.fst.snd.snd.fst ≤ (1000000000 : Nat)) ∧ Wr (List.length ((x.snd.fst, (-1 : Int), (0
  : Int), ()) :: nilL (Int × Int × Int × Unit)) * (24 : Nat) ≤ (140737488355328 : Nat)) ∧ bcase x.snd.snd.snd.fst (Wr (Bool.true = Bool.true) ∧ bcase (Bool.true && !hasN xs x.snd.snd.fst) (bcase (Decidable.decide
  ((↑(List.length x.fst.snd.snd.snd.fst) : Int) > (0 : Int))) (Wr ((0 : Int) ≤ (0 : Int)) ∧ Wr ((0 : Int) < (↑(List.length x.fst.snd.snd.snd.fst) : Int)) ∧ Wr (Bool.true = Bool.true) ∧ Wr ((0 : Int) ≤ (1 : Int)) ∧ Wr ((1
  : Int) ≤ (↑(List.length x.fst.snd.snd.snd.fst) : Int)) ∧ Wr ((↑(List.length x.fst.snd.snd.snd.fst) : Int) ≤ (↑(List.length x.fst.snd.snd.snd.fst) : Int)) ∧ Wr (Decidable.decide (List.length (List.drop (Int.toNat (1 :
  Int)) (List.take (Int.toNat (↑(List.length x.fst.snd.snd.snd.fst) : Int)) x.fst.snd.snd.snd.fst)) * (8 : Nat) ≤ (140737488355328 : Nat)) = Bool.true) ∧ Wr True ∧ Wr ((List.length (delL x.fst.snd.snd.fst (idxN
  x.snd.snd.fst x.fst.snd.snd.fst) (IntKind.wrap IntKind.i64 (idxN x.snd.snd.fst x.fst.snd.snd.fst + (1 : Int)))) + List.length (x.snd.snd.fst :: nilL Int)) * (8 : Nat) ≤ (140737488355328 : Nat)) ∧ Wr ((0 : Nat) <
  List.length (x.snd.snd.fst :: nilL Int)) ∧ Wr ((List.length ((x.snd.fst, (-1 : Int), (0 : Int), ()) :: nilL (Int × Int × Int × Unit)) + List.length ((List.getD x.fst.snd.snd.snd.fst (Int.toNat (0 : Int)) (0 : Int),
  x.snd.snd.fst, (0 : Int), ()) :: nilL (Int × Int × Int × Unit))) * (24 : Nat) ≤ (140737488355328 : Nat)) ∧ Wr (Bool.true = Bool.true) ∧ Wr ((!x.fst.snd.snd.snd.snd.snd.snd.fst) = Bool.true → Bool.true = Bool.true) ∧
  ((x.fst.fst, x.fst.snd.fst, delL x.fst.snd.snd.fst (idxN x.snd.snd.fst x.fst.snd.snd.fst) (IntKind.wrap IntKind.i64 (idxN x.snd.snd.fst x.fst.snd.snd.fst + (1 : Int))) ++ x.snd.snd.fst :: nilL Int, List.drop (Int.toNat
  (1 : Int)) (List.take (Int.toNat (↑(List.length x.fst.snd.snd.snd.fst) : Int)) x.fst.snd.snd.snd.fst), partF x.fst.snd.snd.snd.snd.fst (1 : Int), x.fst.snd.snd.snd.snd.snd), ((x.snd.fst, (-1 : Int), (0 : Int), ()) ::
  nilL (Int × Int × Int × Unit) ++ (List.getD x.fst.snd.snd.snd.fst (Int.toNat (0 : Int)) (0 : Int), x.snd.snd.fst, (0 : Int), ()) :: nilL (Int × Int × Int × Unit), nilL Int, !x.fst.snd.snd.snd.snd.snd.snd.fst && startsF
  (partF x.fst.snd.snd.snd.snd.fst (1 : Int)), Bool.false || partC x.fst.snd.snd.snd.snd.fst (1 : Int), ()), ()) = (outB (backD x.fst x.snd.fst x.snd.snd.fst x.snd.snd.snd.fst x.snd.snd.snd.snd.fst xs), outT (backD x.fst
  x.snd.fst x.snd.snd.fst x.snd.snd.snd.fst x.snd.snd.snd.snd.fst xs), ())) (bcase (Decidable.decide ((↑(List.length x.fst.snd.fst) : Int) < x.fst.fst.snd.fst)) (Wr True ∧ Wr ((List.length x.fst.snd.fst + List.length
  ((x.snd.snd.fst, x.snd.snd.snd.snd) :: nilL (Int × Int × Unit))) * (16 : Nat) ≤ (140737488355328 : Nat)) ∧ Wr ((0 : Nat) < List.length ((x.snd.snd.fst, x.snd.snd.snd.snd) :: nilL (Int × Int × Unit))) ∧ Wr
  ((!x.fst.snd.snd.snd.snd.snd.snd.fst) = Bool.true → Bool.true = Bool.true) ∧ ((x.fst.fst, x.fst.snd.fst ++ (x.snd.snd.fst, x.snd.snd.snd.snd) :: nilL (Int × Int × Unit), delL x.fst.snd.snd.fst (idxN x.snd.snd.fst
  x.fst.snd.snd.fst) (IntKind.wrap IntKind.i64 (idxN x.snd.snd.fst x.fst.snd.snd.fst + (1 : Int))), x.fst.snd.snd.snd), ((x.snd.fst, (-1 : Int), (0 : Int), ()) :: nilL (Int × Int × Int × Unit), nilL Int,
  !x.fst.snd.snd.snd.snd.snd.snd.fst && startsF x.fst.snd.snd.snd.snd.fst, Bool.false, ()), ()) = (outB (backD x.fst x.snd.fst x.snd.snd.fst x.snd.snd.snd.fst x.snd.snd.snd.snd.fst xs), outT (backD x.fst x.snd.fst
  x.snd.snd.fst x.snd.snd.snd.fst x.snd.snd.snd.snd.fst xs), ())) (Wr (List.length (x.snd.snd.fst :: nilL Int) * (8 : Nat) ≤ (140737488355328 : Nat)) ∧ Wr ((!x.fst.snd.snd.snd.snd.snd.snd.fst) = Bool.true → Bool.true =
  Bool.true) ∧ ((x.fst.fst, x.fst.snd.fst, delL x.fst.snd.snd.fst (idxN x.snd.snd.fst x.fst.snd.snd.fst) (IntKind.wrap IntKind.i64 (idxN x.snd.snd.fst x.fst.snd.snd.fst + (1 : Int))), x.fst.snd.snd.snd), ((x.snd.fst, (-1
  : Int), (0 : Int), ()) :: nilL (Int × Int × Int × Unit), x.snd.snd.fst :: nilL Int, !x.fst.snd.snd.snd.snd.snd.snd.fst && startsF x.fst.snd.snd.snd.snd.fst, Bool.false, ()), ()) = (outB (backD x.fst x.snd.fst
  x.snd.snd.fst x.snd.snd.snd.fst x.snd.snd.snd.snd.fst xs), outT (backD x.fst x.snd.fst x.snd.snd.fst x.snd.snd.snd.fst x.snd.snd.snd.snd.fst xs), ())))) (Wr (List.length (x.snd.snd.fst :: nilL Int) * (8 : Nat) ≤
  (140737488355328 : Nat)) ∧ Wr ((!x.fst.snd.snd.snd.snd.snd.snd.fst) = Bool.true → Bool.true = Bool.true) ∧ ((x.fst.fst, x.fst.snd.fst, delL x.fst.snd.snd.fst (idxN x.snd.snd.fst x.fst.snd.snd.fst) (IntKind.wrap
  IntKind.i64 (idxN x.snd.snd.fst x.fst.snd.snd.fst + (1 : Int))), x.fst.snd.snd.snd), ((x.snd.fst, (-1 : Int), (0 : Int), ()) :: nilL (Int × Int × Int × Unit), x.snd.snd.fst :: nilL Int,
  !x.fst.snd.snd.snd.snd.snd.snd.fst && startsF x.fst.snd.snd.snd.snd.fst, Bool.false, ()), ()) = (outB (backD x.fst x.snd.fst x.snd.snd.fst x.snd.snd.snd.fst x.snd.snd.snd.snd.fst xs), outT (backD x.fst x.snd.fst
  x.snd.snd.fst x.snd.snd.snd.fst x.snd.snd.snd.snd.fst xs), ()))) (Wr (List.length (x.snd.snd.fst :: nilL Int) * (8 : Nat) ≤ (140737488355328 : Nat)) ∧ Wr ((!x.fst.snd.snd.snd.snd.snd.snd.fst) = Bool.true → Bool.true =
  Bool.true) ∧ ((x.fst.fst, x.fst.snd.fst, delL x.fst.snd.snd.fst (idxN x.snd.snd.fst x.fst.snd.snd.fst) (IntKind.wrap IntKind.i64 (idxN x.snd.snd.fst x.fst.snd.snd.fst + (1 : Int))), x.fst.snd.snd.snd), ((x.snd.fst, (-1
  : Int), (0 : Int), ()) :: nilL (Int × Int × Int × Unit), x.snd.snd.fst :: nilL Int, !x.fst.snd.snd.snd.snd.snd.snd.fst && startsF x.fst.snd.snd.snd.snd.fst, Bool.false, ()), ()) = (outB (backD x.fst x.snd.fst
  x.snd.snd.fst x.snd.snd.snd.fst x.snd.snd.snd.snd.fst xs), outT (backD x.fst x.snd.fst x.snd.snd.fst x.snd.snd.snd.fst x.snd.snd.snd.snd.fst xs), ()))))) := by kernel_rfl
theorem v17_eq : vcFnB g17 300 Try.f17 cToldB = ( ∀ (x : ((Int × Int × Int × Int × Int × Int × Int × Int × Int × Unit) × List (Int × Int × Unit) × List Int × List Int × (Int × Bool × Int × Unit) × List ((Int × (Int × Int × Int × Int × Int × Int × Int × Int × Unit) × Int
  × Unit) × Int × Unit) × Bool × Unit) × Int × Int × List (Int × (Int × Int × Int × Int × Int × Int × Int × Int × Unit) × Int × Unit) × Int × Unit) (xs : List Int), Wr ((szB x.fst && Decidable.decide (List.length
  x.snd.snd.snd.fst = (0 : Nat))) = Bool.true) → Wr (Bool.true = Bool.true) ∧ Wr ((Decidable.decide (List.length x.fst.snd.snd.snd.snd.snd.fst ≤ (1000000 : Nat)) && Decidable.decide (List.length x.snd.snd.snd.fst = (0 :
  Nat))) = Bool.true) ∧ bcase (Decidable.decide (x.snd.snd.fst = (0 : Int))) (bcase (!x.fst.snd.snd.snd.snd.snd.snd.fst) (Wr (Bool.true = Bool.true) ∧ bcase (Bool.true && (Bool.false || hasN xs x.snd.fst)) (Wr
  (List.length (x.snd.fst :: nilL Int) * (8 : Nat) ≤ (140737488355328 : Nat)) ∧ Wr ((!x.fst.snd.snd.snd.snd.snd.snd.fst) = Bool.true → Bool.true = Bool.true) ∧ ((x.fst.fst, x.fst.snd.fst, x.fst.snd.snd.fst,
  x.fst.snd.snd.snd.fst, endF x.fst.snd.snd.snd.snd.fst, noteS x.fst.snd.snd.snd.snd.snd.fst, x.fst.snd.snd.snd.snd.snd.snd), (nilL (Int × Int × Int × Unit), x.snd.fst :: nilL Int, !x.fst.snd.snd.snd.snd.snd.snd.fst &&
  startsF (endF x.fst.snd.snd.snd.snd.fst), Bool.false, ()), ()) = (outB (toldD x.fst x.snd.fst x.snd.snd.fst x.snd.snd.snd.snd.fst xs), outT (toldD x.fst x.snd.fst x.snd.snd.fst x.snd.snd.snd.snd.fst xs), ())) (bcase
  (Decidable.decide (x.snd.snd.fst = (0 : Int))) (bcase (Decidable.decide ((↑(List.length x.fst.snd.snd.snd.fst) : Int) > (0 : Int))) (Wr ((0 : Int) ≤ (0 : Int)) ∧ Wr ((0 : Int) < (↑(List.length x.fst.snd.snd.snd.fst) :
  Int)) ∧ Wr (Bool.true = Bool.true) ∧ Wr ((0 : Int) ≤ (1 : Int)) ∧ Wr ((1 : Int) ≤ (↑(List.length x.fst.snd.snd.snd.fst) : Int)) ∧ Wr ((↑(List.length x.fst.snd.snd.snd.fst) : Int) ≤ (↑(List.length x.fst.snd.snd.snd.fst)
  : Int)) ∧ Wr (Decidable.decide (List.length (List.drop (Int.toNat (1 : Int)) (List.take (Int.toNat (↑(List.length x.fst.snd.snd.snd.fst) : Int)) x.fst.snd.snd.snd.fst)) * (8 : Nat) ≤ (140737488355328 : Nat)) =
  Bool.true) ∧ Wr True ∧ Wr ((List.length x.fst.snd.snd.fst + List.length (x.snd.fst :: nilL Int)) * (8 : Nat) ≤ (140737488355328 : Nat)) ∧ Wr ((0 : Nat) < List.length (x.snd.fst :: nilL Int)) ∧ Wr (List.length
  ((List.getD x.fst.snd.snd.snd.fst (Int.toNat (0 : Int)) (0 : Int), x.snd.fst, (0 : Int), ()) :: nilL (Int × Int × Int × Unit)) * (24 : Nat) ≤ (140737488355328 : Nat)) ∧ Wr (Bool.true = Bool.true) ∧ Wr
  ((!x.fst.snd.snd.snd.snd.snd.snd.fst) = Bool.true → Bool.true = Bool.true) ∧ ((x.fst.fst, x.fst.snd.fst, x.fst.snd.snd.fst ++ x.snd.fst :: nilL Int, List.drop (Int.toNat (1 : Int)) (List.take (Int.toNat (↑(List.length
  x.fst.snd.snd.snd.fst) : Int)) x.fst.snd.snd.snd.fst), partF (endF x.fst.snd.snd.snd.snd.fst) (1 : Int), noteS x.fst.snd.snd.snd.snd.snd.fst, x.fst.snd.snd.snd.snd.snd.snd), ((List.getD x.fst.snd.snd.snd.fst (Int.toNat
  (0 : Int)) (0 : Int), x.snd.fst, (0 : Int), ()) :: nilL (Int × Int × Int × Unit), nilL Int, !x.fst.snd.snd.snd.snd.snd.snd.fst && startsF (partF (endF x.fst.snd.snd.snd.snd.fst) (1 : Int)), Bool.false || partC (endF
  x.fst.snd.snd.snd.snd.fst) (1 : Int), ()), ()) = (outB (toldD x.fst x.snd.fst x.snd.snd.fst x.snd.snd.snd.snd.fst xs), outT (toldD x.fst x.snd.fst x.snd.snd.fst x.snd.snd.snd.snd.fst xs), ())) (bcase (Decidable.decide
  ((↑(List.length x.fst.snd.fst) : Int) < x.fst.fst.snd.fst)) (Wr True ∧ Wr ((List.length x.fst.snd.fst + List.length ((x.snd.fst, x.snd.snd.snd.snd) :: nilL (Int × Int × Unit))) * (16 : Nat) ≤ (140737488355328 : Nat)) ∧
  Wr ((0 : Nat) < List.length ((x.snd.fst, x.snd.snd.snd.snd) :: nilL (Int × Int × Unit))) ∧ Wr ((!x.fst.snd.snd.snd.snd.snd.snd.fst) = Bool.true → Bool.true = Bool.true) ∧ ((x.fst.fst, x.fst.snd.fst ++ (x.snd.fst,
  x.snd.snd.snd.snd) :: nilL (Int × Int × Unit), x.fst.snd.snd.fst, x.fst.snd.snd.snd.fst, endF x.fst.snd.snd.snd.snd.fst, noteS x.fst.snd.snd.snd.snd.snd.fst, x.fst.snd.snd.snd.snd.snd.snd), (nilL (Int × Int × Int ×
  Unit), nilL Int, !x.fst.snd.snd.snd.snd.snd.snd.fst && startsF (endF x.fst.snd.snd.snd.snd.fst), Bool.false, ()), ()) = (outB (toldD x.fst x.snd.fst x.snd.snd.fst x.snd.snd.snd.snd.fst xs), outT (toldD x.fst x.snd.fst
  x.snd.snd.fst x.snd.snd.snd.snd.fst xs), ())) (Wr (List.length (x.snd.fst :: nilL Int) * (8 : Nat) ≤ (140737488355328 : Nat)) ∧ Wr ((!x.fst.snd.snd.snd.snd.snd.snd.fst) = Bool.true → Bool.true = Bool.true) ∧
  ((x.fst.fst, x.fst.snd.fst, x.fst.snd.snd.fst, x.fst.snd.snd.snd.fst, endF x.fst.snd.snd.snd.snd.fst, noteS x.fst.snd.snd.snd.snd.snd.fst, x.fst.snd.snd.snd.snd.snd.snd), (nilL (Int × Int × Int × Unit), x.snd.fst ::
  nilL Int, !x.fst.snd.snd.snd.snd.snd.snd.fst && startsF (endF x.fst.snd.snd.snd.snd.fst), Bool.false, ()), ()) = (outB (toldD x.fst x.snd.fst x.snd.snd.fst x.snd.snd.snd.snd.fst xs), outT (toldD x.fst x.snd.fst
  x.snd.snd.fst x.snd.snd.snd.snd.fst xs), ())))) (bcase (!Decidable.decide (x.snd.snd.fst = (191 : Int))) ((Wr (AlI x.fst.snd.snd.snd.fst x.snd.snd.fst (0 : Int) (nilL (Int × Int × Int × Unit))) ∧ Wr ((0 : Int) = (0 :
  Int)) ∧ Wr (x.snd.snd.fst = x.snd.snd.fst) ∧ Wr (x.fst.snd.snd.snd.fst = x.fst.snd.snd.snd.fst) ∧ Wr ((↑(List.length x.fst.snd.snd.snd.fst) : Int) = (↑(List.length x.fst.snd.snd.snd.fst) : Int)) ∧ Wr (x.fst.fst.fst =
  x.fst.fst.fst) ∧ Wr (x.fst.fst.snd.fst = x.fst.fst.snd.fst) ∧ Wr (x.fst.fst.snd.snd.fst = x.fst.fst.snd.snd.fst) ∧ Wr (x.fst.fst.snd.snd.snd.fst = x.fst.fst.snd.snd.snd.fst) ∧ Wr (x.fst.fst.snd.snd.snd.snd.fst =
  x.fst.fst.snd.snd.snd.snd.fst) ∧ Wr (x.fst.fst.snd.snd.snd.snd.snd.fst = x.fst.fst.snd.snd.snd.snd.snd.fst) ∧ Wr (x.fst.fst.snd.snd.snd.snd.snd.snd.fst = x.fst.fst.snd.snd.snd.snd.snd.snd.fst) ∧ Wr
  (x.fst.fst.snd.snd.snd.snd.snd.snd.snd.fst = x.fst.fst.snd.snd.snd.snd.snd.snd.snd.fst) ∧ Wr (x.fst.fst.snd.snd.snd.snd.snd.snd.snd.snd.fst = x.fst.fst.snd.snd.snd.snd.snd.snd.snd.snd.fst) ∧ Wr (x.fst.snd.fst =
  x.fst.snd.fst) ∧ Wr (x.fst.snd.snd.fst = x.fst.snd.snd.fst) ∧ Wr (x.fst.snd.snd.snd.fst = x.fst.snd.snd.snd.fst) ∧ Wr ((endF x.fst.snd.snd.snd.snd.fst).fst = (endF x.fst.snd.snd.snd.snd.fst).fst) ∧ Wr ((endF
  x.fst.snd.snd.snd.snd.fst).snd.fst = (endF x.fst.snd.snd.snd.snd.fst).snd.fst) ∧ Wr ((endF x.fst.snd.snd.snd.snd.fst).snd.snd.fst = (endF x.fst.snd.snd.snd.snd.fst).snd.snd.fst) ∧ Wr (noteS x.fst.snd.snd.snd.snd.snd.fst
  = noteS x.fst.snd.snd.snd.snd.snd.fst) ∧ Wr (x.fst.snd.snd.snd.snd.snd.snd.fst = x.fst.snd.snd.snd.snd.snd.snd.fst) ∧ Wr (Bool.false = Bool.false) ∧ Wr (Bool.false = Bool.false) ∧ Wr (x.snd.snd.snd.snd.fst =
  x.snd.snd.snd.snd.fst) ∧ Wr (nilL (Int × Int × Int × Unit) = nilL (Int × Int × Int × Unit)) ∧ Wr (x.fst.fst.fst = x.fst.fst.fst) ∧ Wr (x.fst.fst.snd.fst = x.fst.fst.snd.fst) ∧ Wr (x.fst.fst.snd.snd.fst =
  x.fst.fst.snd.snd.fst) ∧ Wr (x.fst.fst.snd.snd.snd.fst = x.fst.fst.snd.snd.snd.fst) ∧ Wr (x.fst.fst.snd.snd.snd.snd.fst = x.fst.fst.snd.snd.snd.snd.fst) ∧ Wr (x.fst.fst.snd.snd.snd.snd.snd.fst =
  x.fst.fst.snd.snd.snd.snd.snd.fst) ∧ Wr (x.fst.fst.snd.snd.snd.snd.snd.snd.fst = x.fst.fst.snd.snd.snd.snd.snd.snd.fst) ∧ Wr (x.fst.fst.snd.snd.snd.snd.snd.snd.snd.fst = x.fst.fst.snd.snd.snd.snd.snd.snd.snd.fst) ∧ Wr
  (x.fst.fst.snd.snd.snd.snd.snd.snd.snd.snd.fst = x.fst.fst.snd.snd.snd.snd.snd.snd.snd.snd.fst) ∧ Wr (x.fst.snd.fst = x.fst.snd.fst) ∧ Wr (x.fst.snd.snd.fst = x.fst.snd.snd.fst) ∧ Wr (x.fst.snd.snd.snd.fst =
  x.fst.snd.snd.snd.fst) ∧ Wr (x.fst.snd.snd.snd.snd.fst.fst = x.fst.snd.snd.snd.snd.fst.fst) ∧ Wr (x.fst.snd.snd.snd.snd.fst.snd.fst = x.fst.snd.snd.snd.snd.fst.snd.fst) ∧ Wr (x.fst.snd.snd.snd.snd.fst.snd.snd.fst =
  x.fst.snd.snd.snd.snd.fst.snd.snd.fst) ∧ Wr (x.fst.snd.snd.snd.snd.snd.fst = x.fst.snd.snd.snd.snd.snd.fst) ∧ Wr (x.fst.snd.snd.snd.snd.snd.snd.fst = x.fst.snd.snd.snd.snd.snd.snd.fst) ∧ Wr (Bool.false = Bool.false) ∧
  Wr (Bool.false = Bool.false) ∧ Wr ((0 : Int) = (0 : Int)) ∧ Wr ((0 : Int) = (0 : Int)) ∧ Wr ((0 : Int) = (0 : Int)) ∧ Wr ((0 : Int) = (0 : Int)) ∧ Wr ((0 : Int) = (0 : Int)) ∧ Wr ((0 : Int) = (0 : Int)) ∧ Wr ((0 : Int)
  = (0 : Int)) ∧ Wr ((0 : Int) = (0 : Int)) ∧ Wr ((0 : Int) = (0 : Int)) ∧ Wr ((0 : Int) = (0 : Int)) ∧ Wr (Bool.false = Bool.false) ∧ Wr ((0 : Int) = (0 : Int)) ∧ Wr (Bool.false = Bool.false) ∧ Wr (x.fst.fst.fst =
  x.fst.fst.fst) ∧ Wr (x.fst.fst.snd.fst = x.fst.fst.snd.fst) ∧ Wr (x.fst.fst.snd.snd.fst = x.fst.fst.snd.snd.fst) ∧ Wr (x.fst.fst.snd.snd.snd.fst = x.fst.fst.snd.snd.snd.fst) ∧ Wr (x.fst.fst.snd.snd.snd.snd.fst =
  x.fst.fst.snd.snd.snd.snd.fst) ∧ Wr (x.fst.fst.snd.snd.snd.snd.snd.fst = x.fst.fst.snd.snd.snd.snd.snd.fst) ∧ Wr (x.fst.fst.snd.snd.snd.snd.snd.snd.fst = x.fst.fst.snd.snd.snd.snd.snd.snd.fst) ∧ Wr
  (x.fst.fst.snd.snd.snd.snd.snd.snd.snd.fst = x.fst.fst.snd.snd.snd.snd.snd.snd.snd.fst) ∧ Wr (x.fst.fst.snd.snd.snd.snd.snd.snd.snd.snd.fst = x.fst.fst.snd.snd.snd.snd.snd.snd.snd.snd.fst) ∧ Wr (x.fst.snd.fst =
  x.fst.snd.fst) ∧ Wr (x.fst.snd.snd.fst = x.fst.snd.snd.fst) ∧ Wr (x.fst.snd.snd.snd.fst = x.fst.snd.snd.snd.fst) ∧ Wr (x.fst.snd.snd.snd.snd.fst.fst = x.fst.snd.snd.snd.snd.fst.fst) ∧ Wr
  (x.fst.snd.snd.snd.snd.fst.snd.fst = x.fst.snd.snd.snd.snd.fst.snd.fst) ∧ Wr (x.fst.snd.snd.snd.snd.fst.snd.snd.fst = x.fst.snd.snd.snd.snd.fst.snd.snd.fst) ∧ Wr (x.fst.snd.snd.snd.snd.snd.fst =
  x.fst.snd.snd.snd.snd.snd.fst) ∧ Wr (x.fst.snd.snd.snd.snd.snd.snd.fst = x.fst.snd.snd.snd.snd.snd.snd.fst) ∧ Wr (xs = xs)) ∧ ∀ (x_1 : Int × List (Int × Int × Int × Unit)), Wr (AlI x.fst.snd.snd.snd.fst x.snd.snd.fst
  x_1.fst x_1.snd) → bcase (Decidable.decide (x_1.fst < (↑(List.length x.fst.snd.snd.snd.fst) : Int))) (Wr ((0 : Int) ≤ x_1.fst) ∧ Wr (x_1.fst < (↑(List.length x.fst.snd.snd.snd.fst) : Int)) ∧ Wr (Bool.true = Bool.true) ∧
  Wr ((List.length x_1.snd + List.length ((List.getD x.fst.snd.snd.snd.fst (Int.toNat x_1.fst) (0 : Int), (-1 : Int), x.snd.snd.fst, ()) :: nilL (Int × Int × Int × Unit))) * (24 : Nat) ≤ (140737488355328 : Nat)) ∧ Wr (AlI
  x.fst.snd.snd.snd.fst x.snd.snd.fst (IntKind.wrap IntKind.i64 (x_1.fst + (1 : Int))) (x_1.snd ++ (List.getD x.fst.snd.snd.snd.fst (Int.toNat x_1.fst) (0 : Int), (-1 : Int), x.snd.snd.fst, ()) :: nilL (Int × Int × Int ×
  Unit))) ∧ Wr (List.length x.fst.snd.snd.snd.fst - Int.toNat (IntKind.wrap IntKind.i64 (x_1.fst + (1 : Int))) < List.length x.fst.snd.snd.snd.fst - Int.toNat x_1.fst) ∧ Wr (IntKind.wrap IntKind.i64 (x_1.fst + (1 : Int))
  = IntKind.wrap IntKind.i64 (x_1.fst + (1 : Int))) ∧ Wr (x.snd.snd.fst = x.snd.snd.fst) ∧ Wr (x.fst.snd.snd.snd.fst = x.fst.snd.snd.snd.fst) ∧ Wr ((↑(List.length x.fst.snd.snd.snd.fst) : Int) = (↑(List.length
  x.fst.snd.snd.snd.fst) : Int)) ∧ Wr (x.fst.fst.fst = x.fst.fst.fst) ∧ Wr (x.fst.fst.snd.fst = x.fst.fst.snd.fst) ∧ Wr (x.fst.fst.snd.snd.fst = x.fst.fst.snd.snd.fst) ∧ Wr (x.fst.fst.snd.snd.snd.fst =
  x.fst.fst.snd.snd.snd.fst) ∧ Wr (x.fst.fst.snd.snd.snd.snd.fst = x.fst.fst.snd.snd.snd.snd.fst) ∧ Wr (x.fst.fst.snd.snd.snd.snd.snd.fst = x.fst.fst.snd.snd.snd.snd.snd.fst) ∧ Wr (x.fst.fst.snd.snd.snd.snd.snd.snd.fst =
  x.fst.fst.snd.snd.snd.snd.snd.snd.fst) ∧ Wr (x.fst.fst.snd.snd.snd.snd.snd.snd.snd.fst = x.fst.fst.snd.snd.snd.snd.snd.snd.snd.fst) ∧ Wr (x.fst.fst.snd.snd.snd.snd.snd.snd.snd.snd.fst =
  x.fst.fst.snd.snd.snd.snd.snd.snd.snd.snd.fst) ∧ Wr (x.fst.snd.fst = x.fst.snd.fst) ∧ Wr (x.fst.snd.snd.fst = x.fst.snd.snd.fst) ∧ Wr (x.fst.snd.snd.snd.fst = x.fst.snd.snd.snd.fst) ∧ Wr ((endF
  x.fst.snd.snd.snd.snd.fst).fst = (endF x.fst.snd.snd.snd.snd.fst).fst) ∧ Wr ((endF x.fst.snd.snd.snd.snd.fst).snd.fst = (endF x.fst.snd.snd.snd.snd.fst).snd.fst) ∧ Wr ((endF x.fst.snd.snd.snd.snd.fst).snd.snd.fst =
  (endF x.fst.snd.snd.snd.snd.fst).snd.snd.fst) ∧ Wr (noteS x.fst.snd.snd.snd.snd.snd.fst = noteS x.fst.snd.snd.snd.snd.snd.fst) ∧ Wr (x.fst.snd.snd.snd.snd.snd.snd.fst = x.fst.snd.snd.snd.snd.snd.snd.fst) ∧ Wr
  (Bool.false = Bool.false) ∧ Wr (Bool.false = Bool.false) ∧ Wr (x.snd.snd.snd.snd.fst = x.snd.snd.snd.snd.fst) ∧ Wr (x_1.snd ++ (List.getD x.fst.snd.snd.snd.fst (Int.toNat x_1.fst) (0 : Int), (-1 : Int), x.snd.snd.fst,
  ()) :: nilL (Int × Int × Int × Unit) = x_1.snd ++ (List.getD x.fst.snd.snd.snd.fst (Int.toNat x_1.fst) (0 : Int), (-1 : Int), x.snd.snd.fst, ()) :: nilL (Int × Int × Int × Unit)) ∧ Wr (x.fst.fst.fst = x.fst.fst.fst) ∧
  Wr (x.fst.fst.snd.fst = x.fst.fst.snd.fst) ∧ Wr (x.fst.fst.snd.snd.fst = x.fst.fst.snd.snd.fst) ∧ Wr (x.fst.fst.snd.snd.snd.fst = x.fst.fst.snd.snd.snd.fst) ∧ Wr (x.fst.fst.snd.snd.snd.snd.fst =
  x.fst.fst.snd.snd.snd.snd.fst) ∧ Wr (x.fst.fst.snd.snd.snd.snd.snd.fst = x.fst.fst.snd.snd.snd.snd.snd.fst) ∧ Wr (x.fst.fst.snd.snd.snd.snd.snd.snd.fst = x.fst.fst.snd.snd.snd.snd.snd.snd.fst) ∧ Wr
  (x.fst.fst.snd.snd.snd.snd.snd.snd.snd.fst = x.fst.fst.snd.snd.snd.snd.snd.snd.snd.fst) ∧ Wr (x.fst.fst.snd.snd.snd.snd.snd.snd.snd.snd.fst = x.fst.fst.snd.snd.snd.snd.snd.snd.snd.snd.fst) ∧ Wr (x.fst.snd.fst =
  x.fst.snd.fst) ∧ Wr (x.fst.snd.snd.fst = x.fst.snd.snd.fst) ∧ Wr (x.fst.snd.snd.snd.fst = x.fst.snd.snd.snd.fst) ∧ Wr (x.fst.snd.snd.snd.snd.fst.fst = x.fst.snd.snd.snd.snd.fst.fst) ∧ Wr
  (x.fst.snd.snd.snd.snd.fst.snd.fst = x.fst.snd.snd.snd.snd.fst.snd.fst) ∧ Wr (x.fst.snd.snd.snd.snd.fst.snd.snd.fst = x.fst.snd.snd.snd.snd.fst.snd.snd.fst) ∧ Wr (x.fst.snd.snd.snd.snd.snd.fst =
  x.fst.snd.snd.snd.snd.snd.fst) ∧ Wr (x.fst.snd.snd.snd.snd.snd.snd.fst = x.fst.snd.snd.snd.snd.snd.snd.fst) ∧ Wr (Bool.false = Bool.false) ∧ Wr (Bool.false = Bool.false) ∧ Wr ((0 : Int) = (0 : Int)) ∧ Wr ((0 : Int) = (0
  : Int)) ∧ Wr ((0 : Int) = (0 : Int)) ∧ Wr ((0 : Int) = (0 : Int)) ∧ Wr ((0 : Int) = (0 : Int)) ∧ Wr ((0 : Int) = (0 : Int)) ∧ Wr ((0 : Int) = (0 : Int)) ∧ Wr ((0 : Int) = (0 : Int)) ∧ Wr ((0 : Int) = (0 : Int)) ∧ Wr ((0
  : Int) = (0 : Int)) ∧ Wr (Bool.false = Bool.false) ∧ Wr ((0 : Int) = (0 : Int)) ∧ Wr (Bool.false = Bool.false) ∧ Wr (x.fst.fst.fst = x.fst.fst.fst) ∧ Wr (x.fst.fst.snd.fst = x.fst.fst.snd.fst) ∧ Wr
  (x.fst.fst.snd.snd.fst = x.fst.fst.snd.snd.fst) ∧ Wr (x.fst.fst.snd.snd.snd.fst = x.fst.fst.snd.snd.snd.fst) ∧ Wr (x.fst.fst.snd.snd.snd.snd.fst = x.fst.fst.snd.snd.snd.snd.fst) ∧ Wr (x.fst.fst.snd.snd.snd.snd.snd.fst =
  x.fst.fst.snd.snd.snd.snd.snd.fst) ∧ Wr (x.fst.fst.snd.snd.snd.snd.snd.snd.fst = x.fst.fst.snd.snd.snd.snd.snd.snd.fst) ∧ Wr (x.fst.fst.snd.snd.snd.snd.snd.snd.snd.fst = x.fst.fst.snd.snd.snd.snd.snd.snd.snd.fst) ∧ Wr
  (x.fst.fst.snd.snd.snd.snd.snd.snd.snd.snd.fst = x.fst.fst.snd.snd.snd.snd.snd.snd.snd.snd.fst) ∧ Wr (x.fst.snd.fst = x.fst.snd.fst) ∧ Wr (x.fst.snd.snd.fst = x.fst.snd.snd.fst) ∧ Wr (x.fst.snd.snd.snd.fst =
  x.fst.snd.snd.snd.fst) ∧ Wr (x.fst.snd.snd.snd.snd.fst.fst = x.fst.snd.snd.snd.snd.fst.fst) ∧ Wr (x.fst.snd.snd.snd.snd.fst.snd.fst = x.fst.snd.snd.snd.snd.fst.snd.fst) ∧ Wr (x.fst.snd.snd.snd.snd.fst.snd.snd.fst =
  x.fst.snd.snd.snd.snd.fst.snd.snd.fst) ∧ Wr (x.fst.snd.snd.snd.snd.snd.fst = x.fst.snd.snd.snd.snd.snd.fst) ∧ Wr (x.fst.snd.snd.snd.snd.snd.snd.fst = x.fst.snd.snd.snd.snd.snd.snd.fst) ∧ Wr (xs = xs)) (Wr (Bool.true =
  Bool.true) ∧ Wr ((!x.fst.snd.snd.snd.snd.snd.snd.fst) = Bool.true → Bool.true = Bool.true) ∧ ((x.fst.fst, x.fst.snd.fst, x.fst.snd.snd.fst, nilL Int, partF (endF x.fst.snd.snd.snd.snd.fst) (↑(List.length
  x.fst.snd.snd.snd.fst) : Int), noteS x.fst.snd.snd.snd.snd.snd.fst, x.fst.snd.snd.snd.snd.snd.snd), (x_1.snd, nilL Int, !x.fst.snd.snd.snd.snd.snd.snd.fst && startsF (partF (endF x.fst.snd.snd.snd.snd.fst)
  (↑(List.length x.fst.snd.snd.snd.fst) : Int)), Bool.false || partC (endF x.fst.snd.snd.snd.snd.fst) (↑(List.length x.fst.snd.snd.snd.fst) : Int), ()), ()) = (outB (toldD x.fst x.snd.fst x.snd.snd.fst
  x.snd.snd.snd.snd.fst xs), outT (toldD x.fst x.snd.fst x.snd.snd.fst x.snd.snd.snd.snd.fst xs), ()))) (Wr ((!x.fst.snd.snd.snd.snd.snd.snd.fst) = Bool.true → Bool.true = Bool.true) ∧ ((x.fst.fst, x.fst.snd.fst,
  x.fst.snd.snd.fst, x.fst.snd.snd.snd.fst, endF x.fst.snd.snd.snd.snd.fst, noteS x.fst.snd.snd.snd.snd.snd.fst, x.fst.snd.snd.snd.snd.snd.snd), (nilL (Int × Int × Int × Unit), nilL Int, !x.fst.snd.snd.snd.snd.snd.snd.fst
  && startsF (endF x.fst.snd.snd.snd.snd.fst), Bool.false, ()), ()) = (outB (toldD x.fst x.snd.fst x.snd.snd.fst x.snd.snd.snd.snd.fst xs), outT (toldD x.fst x.snd.fst x.snd.snd.fst x.snd.snd.snd.snd.fst xs), ()))))) (Wr
  (List.length (x.snd.fst :: nilL Int) * (8 : Nat) ≤ (140737488355328 : Nat)) ∧ Wr ((!x.fst.snd.snd.snd.snd.snd.snd.fst) = Bool.true → Bool.true = Bool.true) ∧ ((x.fst.fst, x.fst.snd.fst, x.fst.snd.snd.fst,
  x.fst.snd.snd.snd.fst, endF x.fst.snd.snd.snd.snd.fst, noteS x.fst.snd.snd.snd.snd.snd.fst, x.fst.snd.snd.snd.snd.snd.snd), (nilL (Int × Int × Int × Unit), x.snd.fst :: nilL Int, !x.fst.snd.snd.snd.snd.snd.snd.fst &&
  startsF (endF x.fst.snd.snd.snd.snd.fst), Bool.false, ()), ()) = (outB (toldD x.fst x.snd.fst x.snd.snd.fst x.snd.snd.snd.snd.fst xs), outT (toldD x.fst x.snd.fst x.snd.snd.fst x.snd.snd.snd.snd.fst xs), ()))) (bcase
  (Decidable.decide (x.snd.snd.fst = (0 : Int))) (bcase (Decidable.decide ((↑(List.length x.fst.snd.snd.snd.fst) : Int) > (0 : Int))) (Wr ((0 : Int) ≤ (0 : Int)) ∧ Wr ((0 : Int) < (↑(List.length x.fst.snd.snd.snd.fst) :
  Int)) ∧ Wr (Bool.true = Bool.true) ∧ Wr ((0 : Int) ≤ (1 : Int)) ∧ Wr ((1 : Int) ≤ (↑(List.length x.fst.snd.snd.snd.fst) : Int)) ∧ Wr ((↑(List.length x.fst.snd.snd.snd.fst) : Int) ≤ (↑(List.length x.fst.snd.snd.snd.fst)
  : Int)) ∧ Wr (Decidable.decide (List.length (List.drop (Int.toNat (1 : Int)) (List.take (Int.toNat (↑(List.length x.fst.snd.snd.snd.fst) : Int)) x.fst.snd.snd.snd.fst)) * (8 : Nat) ≤ (140737488355328 : Nat)) =
  Bool.true) ∧ Wr True ∧ Wr ((List.length x.fst.snd.snd.fst + List.length (x.snd.fst :: nilL Int)) * (8 : Nat) ≤ (140737488355328 : Nat)) ∧ Wr ((0 : Nat) < List.length (x.snd.fst :: nilL Int)) ∧ Wr (List.length
  ((List.getD x.fst.snd.snd.snd.fst (Int.toNat (0 : Int)) (0 : Int), x.snd.fst, (0 : Int), ()) :: nilL (Int × Int × Int × Unit)) * (24 : Nat) ≤ (140737488355328 : Nat)) ∧ Wr (Bool.true = Bool.true) ∧ Wr
  ((!x.fst.snd.snd.snd.snd.snd.snd.fst) = Bool.true → Bool.true = Bool.true) ∧ ((x.fst.fst, x.fst.snd.fst, x.fst.snd.snd.fst ++ x.snd.fst :: nilL Int, List.drop (Int.toNat (1 : Int)) (List.take (Int.toNat (↑(List.length
  x.fst.snd.snd.snd.fst) : Int)) x.fst.snd.snd.snd.fst), partF (endF x.fst.snd.snd.snd.snd.fst) (1 : Int), noteS x.fst.snd.snd.snd.snd.snd.fst, x.fst.snd.snd.snd.snd.snd.snd), ((List.getD x.fst.snd.snd.snd.fst (Int.toNat
  (0 : Int)) (0 : Int), x.snd.fst, (0 : Int), ()) :: nilL (Int × Int × Int × Unit), nilL Int, !x.fst.snd.snd.snd.snd.snd.snd.fst && startsF (partF (endF x.fst.snd.snd.snd.snd.fst) (1 : Int)), Bool.false || partC (endF
  x.fst.snd.snd.snd.snd.fst) (1 : Int), ()), ()) = (outB (toldD x.fst x.snd.fst x.snd.snd.fst x.snd.snd.snd.snd.fst xs), outT (toldD x.fst x.snd.fst x.snd.snd.fst x.snd.snd.snd.snd.fst xs), ())) (bcase (Decidable.decide
  ((↑(List.length x.fst.snd.fst) : Int) < x.fst.fst.snd.fst)) (Wr True ∧ Wr ((List.length x.fst.snd.fst + List.length ((x.snd.fst, x.snd.snd.snd.snd) :: nilL (Int × Int × Unit))) * (16 : Nat) ≤ (140737488355328 : Nat)) ∧
  Wr ((0 : Nat) < List.length ((x.snd.fst, x.snd.snd.snd.snd) :: nilL (Int × Int × Unit))) ∧ Wr ((!x.fst.snd.snd.snd.snd.snd.snd.fst) = Bool.true → Bool.true = Bool.true) ∧ ((x.fst.fst, x.fst.snd.fst ++ (x.snd.fst,
  x.snd.snd.snd.snd) :: nilL (Int × Int × Unit), x.fst.snd.snd.fst, x.fst.snd.snd.snd.fst, endF x.fst.snd.snd.snd.snd.fst, noteS x.fst.snd.snd.snd.snd.snd.fst, x.fst.snd.snd.snd.snd.snd.snd), (nilL (Int × Int × Int ×
  Unit), nilL Int, !x.fst.snd.snd.snd.snd.snd.snd.fst && startsF (endF x.fst.snd.snd.snd.snd.fst), Bool.false, ()), ()) = (outB (toldD x.fst x.snd.fst x.snd.snd.fst x.snd.snd.snd.snd.fst xs), outT (toldD x.fst x.snd.fst
  x.snd.snd.fst x.snd.snd.snd.snd.fst xs), ())) (Wr (List.length (x.snd.fst :: nilL Int) * (8 : Nat) ≤ (140737488355328 : Nat)) ∧ Wr ((!x.fst.snd.snd.snd.snd.snd.snd.fst) = Bool.true → Bool.true = Bool.true) ∧
  ((x.fst.fst, x.fst.snd.fst, x.fst.snd.snd.fst, x.fst.snd.snd.snd.fst, endF x.fst.snd.snd.snd.snd.fst, noteS x.fst.snd.snd.snd.snd.snd.fst, x.fst.snd.snd.snd.snd.snd.snd), (nilL (Int × Int × Int × Unit), x.snd.fst ::
  nilL Int, !x.fst.snd.snd.snd.snd.snd.snd.fst && startsF (endF x.fst.snd.snd.snd.snd.fst), Bool.false, ()), ()) = (outB (toldD x.fst x.snd.fst x.snd.snd.fst x.snd.snd.snd.snd.fst xs), outT (toldD x.fst x.snd.fst
  x.snd.snd.fst x.snd.snd.snd.snd.fst xs), ())))) (bcase (!Decidable.decide (x.snd.snd.fst = (191 : Int))) ((Wr (AlI x.fst.snd.snd.snd.fst x.snd.snd.fst (0 : Int) (nilL (Int × Int × Int × Unit))) ∧ Wr ((0 : Int) = (0 :
  Int)) ∧ Wr (x.snd.snd.fst = x.snd.snd.fst) ∧ Wr (x.fst.snd.snd.snd.fst = x.fst.snd.snd.snd.fst) ∧ Wr ((↑(List.length x.fst.snd.snd.snd.fst) : Int) = (↑(List.length x.fst.snd.snd.snd.fst) : Int)) ∧ Wr (x.fst.fst.fst =
  x.fst.fst.fst) ∧ Wr (x.fst.fst.snd.fst = x.fst.fst.snd.fst) ∧ Wr (x.fst.fst.snd.snd.fst = x.fst.fst.snd.snd.fst) ∧ Wr (x.fst.fst.snd.snd.snd.fst = x.fst.fst.snd.snd.snd.fst) ∧ Wr (x.fst.fst.snd.snd.snd.snd.fst =
  x.fst.fst.snd.snd.snd.snd.fst) ∧ Wr (x.fst.fst.snd.snd.snd.snd.snd.fst = x.fst.fst.snd.snd.snd.snd.snd.fst) ∧ Wr (x.fst.fst.snd.snd.snd.snd.snd.snd.fst = x.fst.fst.snd.snd.snd.snd.snd.snd.fst) ∧ Wr
  (x.fst.fst.snd.snd.snd.snd.snd.snd.snd.fst = x.fst.fst.snd.snd.snd.snd.snd.snd.snd.fst) ∧ Wr (x.fst.fst.snd.snd.snd.snd.snd.snd.snd.snd.fst = x.fst.fst.snd.snd.snd.snd.snd.snd.snd.snd.fst) ∧ Wr (x.fst.snd.fst =
  x.fst.snd.fst) ∧ Wr (x.fst.snd.snd.fst = x.fst.snd.snd.fst) ∧ Wr (x.fst.snd.snd.snd.fst = x.fst.snd.snd.snd.fst) ∧ Wr ((endF x.fst.snd.snd.snd.snd.fst).fst = (endF x.fst.snd.snd.snd.snd.fst).fst) ∧ Wr ((endF
  x.fst.snd.snd.snd.snd.fst).snd.fst = (endF x.fst.snd.snd.snd.snd.fst).snd.fst) ∧ Wr ((endF x.fst.snd.snd.snd.snd.fst).snd.snd.fst = (endF x.fst.snd.snd.snd.snd.fst).snd.snd.fst) ∧ Wr (noteS x.fst.snd.snd.snd.snd.snd.fst
  = noteS x.fst.snd.snd.snd.snd.snd.fst) ∧ Wr (x.fst.snd.snd.snd.snd.snd.snd.fst = x.fst.snd.snd.snd.snd.snd.snd.fst) ∧ Wr (Bool.false = Bool.false) ∧ Wr (Bool.false = Bool.false) ∧ Wr (x.snd.snd.snd.snd.fst =
  x.snd.snd.snd.snd.fst) ∧ Wr (nilL (Int × Int × Int × Unit) = nilL (Int × Int × Int × Unit)) ∧ Wr (x.fst.fst.fst = x.fst.fst.fst) ∧ Wr (x.fst.fst.snd.fst = x.fst.fst.snd.fst) ∧ Wr (x.fst.fst.snd.snd.fst =
  x.fst.fst.snd.snd.fst) ∧ Wr (x.fst.fst.snd.snd.snd.fst = x.fst.fst.snd.snd.snd.fst) ∧ Wr (x.fst.fst.snd.snd.snd.snd.fst = x.fst.fst.snd.snd.snd.snd.fst) ∧ Wr (x.fst.fst.snd.snd.snd.snd.snd.fst =
  x.fst.fst.snd.snd.snd.snd.snd.fst) ∧ Wr (x.fst.fst.snd.snd.snd.snd.snd.snd.fst = x.fst.fst.snd.snd.snd.snd.snd.snd.fst) ∧ Wr (x.fst.fst.snd.snd.snd.snd.snd.snd.snd.fst = x.fst.fst.snd.snd.snd.snd.snd.snd.snd.fst) ∧ Wr
  (x.fst.fst.snd.snd.snd.snd.snd.snd.snd.snd.fst = x.fst.fst.snd.snd.snd.snd.snd.snd.snd.snd.fst) ∧ Wr (x.fst.snd.fst = x.fst.snd.fst) ∧ Wr (x.fst.snd.snd.fst = x.fst.snd.snd.fst) ∧ Wr (x.fst.snd.snd.snd.fst =
  x.fst.snd.snd.snd.fst) ∧ Wr (x.fst.snd.snd.snd.snd.fst.fst = x.fst.snd.snd.snd.snd.fst.fst) ∧ Wr (x.fst.snd.snd.snd.snd.fst.snd.fst = x.fst.snd.snd.snd.snd.fst.snd.fst) ∧ Wr (x.fst.snd.snd.snd.snd.fst.snd.snd.fst =
  x.fst.snd.snd.snd.snd.fst.snd.snd.fst) ∧ Wr (x.fst.snd.snd.snd.snd.snd.fst = x.fst.snd.snd.snd.snd.snd.fst) ∧ Wr (x.fst.snd.snd.snd.snd.snd.snd.fst = x.fst.snd.snd.snd.snd.snd.snd.fst) ∧ Wr (Bool.false = Bool.false) ∧
  Wr (Bool.false = Bool.false) ∧ Wr ((0 : Int) = (0 : Int)) ∧ Wr ((0 : Int) = (0 : Int)) ∧ Wr ((0 : Int) = (0 : Int)) ∧ Wr ((0 : Int) = (0 : Int)) ∧ Wr ((0 : Int) = (0 : Int)) ∧ Wr ((0 : Int) = (0 : Int)) ∧ Wr ((0 : Int)
  = (0 : Int)) ∧ Wr ((0 : Int) = (0 : Int)) ∧ Wr ((0 : Int) = (0 : Int)) ∧ Wr ((0 : Int) = (0 : Int)) ∧ Wr (Bool.false = Bool.false) ∧ Wr ((0 : Int) = (0 : Int)) ∧ Wr (Bool.false = Bool.false) ∧ Wr (x.fst.fst.fst =
  x.fst.fst.fst) ∧ Wr (x.fst.fst.snd.fst = x.fst.fst.snd.fst) ∧ Wr (x.fst.fst.snd.snd.fst = x.fst.fst.snd.snd.fst) ∧ Wr (x.fst.fst.snd.snd.snd.fst = x.fst.fst.snd.snd.snd.fst) ∧ Wr (x.fst.fst.snd.snd.snd.snd.fst =
  x.fst.fst.snd.snd.snd.snd.fst) ∧ Wr (x.fst.fst.snd.snd.snd.snd.snd.fst = x.fst.fst.snd.snd.snd.snd.snd.fst) ∧ Wr (x.fst.fst.snd.snd.snd.snd.snd.snd.fst = x.fst.fst.snd.snd.snd.snd.snd.snd.fst) ∧ Wr
  (x.fst.fst.snd.snd.snd.snd.snd.snd.snd.fst = x.fst.fst.snd.snd.snd.snd.snd.snd.snd.fst) ∧ Wr (x.fst.fst.snd.snd.snd.snd.snd.snd.snd.snd.fst = x.fst.fst.snd.snd.snd.snd.snd.snd.snd.snd.fst) ∧ Wr (x.fst.snd.fst =
  x.fst.snd.fst) ∧ Wr (x.fst.snd.snd.fst = x.fst.snd.snd.fst) ∧ Wr (x.fst.snd.snd.snd.fst = x.fst.snd.snd.snd.fst) ∧ Wr (x.fst.snd.snd.snd.snd.fst.fst = x.fst.snd.snd.snd.snd.fst.fst) ∧ Wr
  (x.fst.snd.snd.snd.snd.fst.snd.fst = x.fst.snd.snd.snd.snd.fst.snd.fst) ∧ Wr (x.fst.snd.snd.snd.snd.fst.snd.snd.fst = x.fst.snd.snd.snd.snd.fst.snd.snd.fst) ∧ Wr (x.fst.snd.snd.snd.snd.snd.fst =
  x.fst.snd.snd.snd.snd.snd.fst) ∧ Wr (x.fst.snd.snd.snd.snd.snd.snd.fst = x.fst.snd.snd.snd.snd.snd.snd.fst) ∧ Wr (xs = xs)) ∧ ∀ (x_1 : Int × List (Int × Int × Int × Unit)), Wr (AlI x.fst.snd.snd.snd.fst x.snd.snd.fst
  x_1.fst x_1.snd) → bcase (Decidable.decide (x_1.fst < (↑(List.length x.fst.snd.snd.snd.fst) : Int))) (Wr ((0 : Int) ≤ x_1.fst) ∧ Wr (x_1.fst < (↑(List.length x.fst.snd.snd.snd.fst) : Int)) ∧ Wr (Bool.true = Bool.true) ∧
  Wr ((List.length x_1.snd + List.length ((List.getD x.fst.snd.snd.snd.fst (Int.toNat x_1.fst) (0 : Int), (-1 : Int), x.snd.snd.fst, ()) :: nilL (Int × Int × Int × Unit))) * (24 : Nat) ≤ (140737488355328 : Nat)) ∧ Wr (AlI
  x.fst.snd.snd.snd.fst x.snd.snd.fst (IntKind.wrap IntKind.i64 (x_1.fst + (1 : Int))) (x_1.snd ++ (List.getD x.fst.snd.snd.snd.fst (Int.toNat x_1.fst) (0 : Int), (-1 : Int), x.snd.snd.fst, ()) :: nilL (Int × Int × Int ×
  Unit))) ∧ Wr (List.length x.fst.snd.snd.snd.fst - Int.toNat (IntKind.wrap IntKind.i64 (x_1.fst + (1 : Int))) < List.length x.fst.snd.snd.snd.fst - Int.toNat x_1.fst) ∧ Wr (IntKind.wrap IntKind.i64 (x_1.fst + (1 : Int))
  = IntKind.wrap IntKind.i64 (x_1.fst + (1 : Int))) ∧ Wr (x.snd.snd.fst = x.snd.snd.fst) ∧ Wr (x.fst.snd.snd.snd.fst = x.fst.snd.snd.snd.fst) ∧ Wr ((↑(List.length x.fst.snd.snd.snd.fst) : Int) = (↑(List.length
  x.fst.snd.snd.snd.fst) : Int)) ∧ Wr (x.fst.fst.fst = x.fst.fst.fst) ∧ Wr (x.fst.fst.snd.fst = x.fst.fst.snd.fst) ∧ Wr (x.fst.fst.snd.snd.fst = x.fst.fst.snd.snd.fst) ∧ Wr (x.fst.fst.snd.snd.snd.fst =
  x.fst.fst.snd.snd.snd.fst) ∧ Wr (x.fst.fst.snd.snd.snd.snd.fst = x.fst.fst.snd.snd.snd.snd.fst) ∧ Wr (x.fst.fst.snd.snd.snd.snd.snd.fst = x.fst.fst.snd.snd.snd.snd.snd.fst) ∧ Wr (x.fst.fst.snd.snd.snd.snd.snd.snd.fst =
  x.fst.fst.snd.snd.snd.snd.snd.snd.fst) ∧ Wr (x.fst.fst.snd.snd.snd.snd.snd.snd.snd.fst = x.fst.fst.snd.snd.snd.snd.snd.snd.snd.fst) ∧ Wr (x.fst.fst.snd.snd.snd.snd.snd.snd.snd.snd.fst =
  x.fst.fst.snd.snd.snd.snd.snd.snd.snd.snd.fst) ∧ Wr (x.fst.snd.fst = x.fst.snd.fst) ∧ Wr (x.fst.snd.snd.fst = x.fst.snd.snd.fst) ∧ Wr (x.fst.snd.snd.snd.fst = x.fst.snd.snd.snd.fst) ∧ Wr ((endF
  x.fst.snd.snd.snd.snd.fst).fst = (endF x.fst.snd.snd.snd.snd.fst).fst) ∧ Wr ((endF x.fst.snd.snd.snd.snd.fst).snd.fst = (endF x.fst.snd.snd.snd.snd.fst).snd.fst) ∧ Wr ((endF x.fst.snd.snd.snd.snd.fst).snd.snd.fst =
  (endF x.fst.snd.snd.snd.snd.fst).snd.snd.fst) ∧ Wr (noteS x.fst.snd.snd.snd.snd.snd.fst = noteS x.fst.snd.snd.snd.snd.snd.fst) ∧ Wr (x.fst.snd.snd.snd.snd.snd.snd.fst = x.fst.snd.snd.snd.snd.snd.snd.fst) ∧ Wr
  (Bool.false = Bool.false) ∧ Wr (Bool.false = Bool.false) ∧ Wr (x.snd.snd.snd.snd.fst = x.snd.snd.snd.snd.fst) ∧ Wr (x_1.snd ++ (List.getD x.fst.snd.snd.snd.fst (Int.toNat x_1.fst) (0 : Int), (-1 : Int), x.snd.snd.fst,
  ()) :: nilL (Int × Int × Int × Unit) = x_1.snd ++ (List.getD x.fst.snd.snd.snd.fst (Int.toNat x_1.fst) (0 : Int), (-1 : Int), x.snd.snd.fst, ()) :: nilL (Int × Int × Int × Unit)) ∧ Wr (x.fst.fst.fst = x.fst.fst.fst) ∧
  Wr (x.fst.fst.snd.fst = x.fst.fst.snd.fst) ∧ Wr (x.fst.fst.snd.snd.fst = x.fst.fst.snd.snd.fst) ∧ Wr (x.fst.fst.snd.snd.snd.fst = x.fst.fst.snd.snd.snd.fst) ∧ Wr (x.fst.fst.snd.snd.snd.snd.fst =
  x.fst.fst.snd.snd.snd.snd.fst) ∧ Wr (x.fst.fst.snd.snd.snd.snd.snd.fst = x.fst.fst.snd.snd.snd.snd.snd.fst) ∧ Wr (x.fst.fst.snd.snd.snd.snd.snd.snd.fst = x.fst.fst.snd.snd.snd.snd.snd.snd.fst) ∧ Wr
  (x.fst.fst.snd.snd.snd.snd.snd.snd.snd.fst = x.fst.fst.snd.snd.snd.snd.snd.snd.snd.fst) ∧ Wr (x.fst.fst.snd.snd.snd.snd.snd.snd.snd.snd.fst = x.fst.fst.snd.snd.snd.snd.snd.snd.snd.snd.fst) ∧ Wr (x.fst.snd.fst =
  x.fst.snd.fst) ∧ Wr (x.fst.snd.snd.fst = x.fst.snd.snd.fst) ∧ Wr (x.fst.snd.snd.snd.fst = x.fst.snd.snd.snd.fst) ∧ Wr (x.fst.snd.snd.snd.snd.fst.fst = x.fst.snd.snd.snd.snd.fst.fst) ∧ Wr
  (x.fst.snd.snd.snd.snd.fst.snd.fst = x.fst.snd.snd.snd.snd.fst.snd.fst) ∧ Wr (x.fst.snd.snd.snd.snd.fst.snd.snd.fst = x.fst.snd.snd.snd.snd.fst.snd.snd.fst) ∧ Wr (x.fst.snd.snd.snd.snd.snd.fst =
  x.fst.snd.snd.snd.snd.snd.fst) ∧ Wr (x.fst.snd.snd.snd.snd.snd.snd.fst = x.fst.snd.snd.snd.snd.snd.snd.fst) ∧ Wr (Bool.false = Bool.false) ∧ Wr (Bool.false = Bool.false) ∧ Wr ((0 : Int) = (0 : Int)) ∧ Wr ((0 : Int) = (0
  : Int)) ∧ Wr ((0 : Int) = (0 : Int)) ∧ Wr ((0 : Int) = (0 : Int)) ∧ Wr ((0 : Int) = (0 : Int)) ∧ Wr ((0 : Int) = (0 : Int)) ∧ Wr ((0 : Int) = (0 : Int)) ∧ Wr ((0 : Int) = (0 : Int)) ∧ Wr ((0 : Int) = (0 : Int)) ∧ Wr ((0
  : Int) = (0 : Int)) ∧ Wr (Bool.false = Bool.false) ∧ Wr ((0 : Int) = (0 : Int)) ∧ Wr (Bool.false = Bool.false) ∧ Wr (x.fst.fst.fst = x.fst.fst.fst) ∧ Wr (x.fst.fst.snd.fst = x.fst.fst.snd.fst) ∧ Wr
  (x.fst.fst.snd.snd.fst = x.fst.fst.snd.snd.fst) ∧ Wr (x.fst.fst.snd.snd.snd.fst = x.fst.fst.snd.snd.snd.fst) ∧ Wr (x.fst.fst.snd.snd.snd.snd.fst = x.fst.fst.snd.snd.snd.snd.fst) ∧ Wr (x.fst.fst.snd.snd.snd.snd.snd.fst =
  x.fst.fst.snd.snd.snd.snd.snd.fst) ∧ Wr (x.fst.fst.snd.snd.snd.snd.snd.snd.fst = x.fst.fst.snd.snd.snd.snd.snd.snd.fst) ∧ Wr (x.fst.fst.snd.snd.snd.snd.snd.snd.snd.fst = x.fst.fst.snd.snd.snd.snd.snd.snd.snd.fst) ∧ Wr
  (x.fst.fst.snd.snd.snd.snd.snd.snd.snd.snd.fst = x.fst.fst.snd.snd.snd.snd.snd.snd.snd.snd.fst) ∧ Wr (x.fst.snd.fst = x.fst.snd.fst) ∧ Wr (x.fst.snd.snd.fst = x.fst.snd.snd.fst) ∧ Wr (x.fst.snd.snd.snd.fst =
  x.fst.snd.snd.snd.fst) ∧ Wr (x.fst.snd.snd.snd.snd.fst.fst = x.fst.snd.snd.snd.snd.fst.fst) ∧ Wr (x.fst.snd.snd.snd.snd.fst.snd.fst = x.fst.snd.snd.snd.snd.fst.snd.fst) ∧ Wr (x.fst.snd.snd.snd.snd.fst.snd.snd.fst =
  x.fst.snd.snd.snd.snd.fst.snd.snd.fst) ∧ Wr (x.fst.snd.snd.snd.snd.snd.fst = x.fst.snd.snd.snd.snd.snd.fst) ∧ Wr (x.fst.snd.snd.snd.snd.snd.snd.fst = x.fst.snd.snd.snd.snd.snd.snd.fst) ∧ Wr (xs = xs)) (Wr (Bool.true =
  Bool.true) ∧ Wr ((!x.fst.snd.snd.snd.snd.snd.snd.fst) = Bool.true → Bool.true = Bool.true) ∧ ((x.fst.fst, x.fst.snd.fst, x.fst.snd.snd.fst, nilL Int, partF (endF x.fst.snd.snd.snd.snd.fst) (↑(List.length
  x.fst.snd.snd.snd.fst) : Int), noteS x.fst.snd.snd.snd.snd.snd.fst, x.fst.snd.snd.snd.snd.snd.snd), (x_1.snd, nilL Int, !x.fst.snd.snd.snd.snd.snd.snd.fst && startsF (partF (endF x.fst.snd.snd.snd.snd.fst)
  (↑(List.length x.fst.snd.snd.snd.fst) : Int)), Bool.false || partC (endF x.fst.snd.snd.snd.snd.fst) (↑(List.length x.fst.snd.snd.snd.fst) : Int), ()), ()) = (outB (toldD x.fst x.snd.fst x.snd.snd.fst
  x.snd.snd.snd.snd.fst xs), outT (toldD x.fst x.snd.fst x.snd.snd.fst x.snd.snd.snd.snd.fst xs), ()))) (Wr ((!x.fst.snd.snd.snd.snd.snd.snd.fst) = Bool.true → Bool.true = Bool.true) ∧ ((x.fst.fst, x.fst.snd.fst,
  x.fst.snd.snd.fst, x.fst.snd.snd.snd.fst, endF x.fst.snd.snd.snd.snd.fst, noteS x.fst.snd.snd.snd.snd.snd.fst, x.fst.snd.snd.snd.snd.snd.snd), (nilL (Int × Int × Int × Unit), nilL Int, !x.fst.snd.snd.snd.snd.snd.snd.fst
  && startsF (endF x.fst.snd.snd.snd.snd.fst), Bool.false, ()), ()) = (outB (toldD x.fst x.snd.fst x.snd.snd.fst x.snd.snd.snd.snd.fst xs), outT (toldD x.fst x.snd.fst x.snd.snd.fst x.snd.snd.snd.snd.fst xs), ()))))) := by kernel_rfl
end Go.Proofs.Ytdkcgcgefgeooaa.Bk.B
set_option linter.all false
namespace Go.Proofs.Ytdkcgcgefgeooaa.Bk.B
open Go Go.Eng Go.RowKit
set_option maxRecDepth 100000
set_option maxHeartbeats 16000000
theorem bval59 : BValid Try.prog GW 59 cTopB := by
  refine ⟨⟨Try.f59, Try.func59, by kernel_rfl, rfl⟩, fun w _ S x cs dead v hS hx hv hpre => ?_⟩
  obtain ⟨l, lo, no, ⟨⟩⟩ := x
  obtain ⟨c1, c2, rfl, h1, c3, c4, rfl, ⟨rfl, hlo⟩, c5, c6, rfl, ⟨rfl, hno⟩, rfl⟩ := hx
  have hl : l.length ≤ 1000000 := of_decide_eq_true hpre
  have hR := h1.mono (S' := fun b => b < w.heap.size) (fun b hb => ⟨hS b hb, rfl⟩)
  have hd := hv
  obtain ⟨base, cap, rfl, _, _, hne⟩ := h1
  obtain ⟨b, c, hvv, _⟩ := hv
  obtain ⟨rfl, _⟩ := List.cons.inj hvv
  have hel : ∀ k : Fin l.length, ∃ b off, base = some ⟨b, off, none⟩ ∧ b < w.heap.size ∧ w.cell? ⟨b, off + (k : Nat) * 2 + 0, none⟩ = some (.int .i64 (l[k]).1) ∧ w.cell? ⟨b, off + (k : Nat) * 2 + 1, none⟩ = some (.int .i64 (l[k]).2.1) ∧ IntKind.wrap .i64 (l[k]).1 = (l[k]).1 ∧ IntKind.wrap .i64 (l[k]).2.1 = (l[k]).2.1 := fun k => by
    obtain ⟨b, off, e, hb, hel⟩ := hne (fun e => absurd (congrArg (List.length (α := Rs)) e) (by show ¬ List.length (α := Rs) l = 0; have := k.2; omega))
    obtain ⟨es, hes, hlies⟩ := hel k.1 (l[k]) (List.getElem?_eq_getElem k.2)
    obtain ⟨d1, d2, rfl, ⟨rfl, hq1⟩, d3, d4, rfl, ⟨rfl, hq2⟩, rfl⟩ := hes
    exact ⟨b, off, e, hS b hb, hlies 0 _ rfl, hlies 1 _ rfl, hq1, hq2⟩
  have hw : ∀ k : Fin l.length, IntKind.wrap .i64 (l[k]).1 = (l[k]).1 ∧ IntKind.wrap .i64 (l[k]).2.1 = (l[k]).2.1 := fun k => by
    obtain ⟨_, _, _, _, _, _, h⟩ := hel k; exact h
  refine Calls.mono (callsIn_wide.1 (top_in base cap l hl lo no b _ c dead w (fun b => b < w.heap.size) (fun _ h => h) hd hR hlo hno hw (fun k => by obtain ⟨b, off, h1, h2, h3, h4, _⟩ := hel k; exact ⟨b, off, h1, h2, h3, h4⟩))) ?_
  rintro e W' ⟨sk, ok, v9, v10, n9, outs, rfl, hr10, hr9, hB, hQ⟩
  obtain ⟨e1, e2, e3, e4⟩ := topQ_plain hQ
  have hn9 : n9 = (l.take n9).length := by
    rcases hQ with ⟨_, _, rfl, _⟩ | ⟨k, _, _, rfl, _⟩
    · rfl
    · rw [List.length_take]; have := k.2; omega
  have hmem : ∀ r ∈ l.take n9, IntKind.wrap .i64 r.1 = r.1 ∧ IntKind.wrap .i64 r.2.1 = r.2.1 := fun r hr => by
    obtain ⟨i, hi, rfl⟩ := List.mem_iff_getElem.1 (List.mem_of_mem_take hr)
    exact hw ⟨i, hi⟩
  have hsk : IntKind.wrap .i64 sk = sk := by
    rcases hQ with ⟨_, rfl, _⟩ | ⟨k, _, rfl, _⟩
    · decide
    · exact (hw k).1
  refine ⟨hB, [.int .i64 sk, v9, v10, .bool ok], rfl, ⟨[_], [_, _, _], rfl, ⟨congrArg (fun z => [Value.int .i64 z]) e1, by rw [e1] at hsk; exact hsk⟩, [_], [_, _], rfl, ?_, [_], [_], rfl, ?_, [_], [], rfl, congrArg (fun z => [Value.bool z]) e4, rfl⟩⟩
  · show RdC Try.prog (.sl RestT) _ W' (topR lo no dead l) [v9]
    rw [← e2]
    exact row_fin (w' := W') S (l.take n9) hn9 hr9 (rests_rdL hmem)
  · show RdC Try.prog (.sl I64) _ W' (topO lo no dead l) [v10]
    rw [← e3]
    exact row_fin (w' := W') S _ (by rw [List.length_map]) hr10 (ints_rdL hw outs)
theorem v68 : VcB g68 300 Try.f68 cSiftB := by
  constructor
  rw [v68_eq]
  simp only [Wr_iff, bcase_iff, true_and, and_true, decide_eq_true_eq, decide_eq_false_iff_not, Bool.and_eq_true, Bool.and_eq_false_iff, Bool.or_eq_true, Bool.or_eq_false_iff, Bool.not_eq_true', Bool.not_eq_false', Option.map_some, Option.getD_some, Option.isSome_some, Option.isSome_map, imp_self, nilL, noneO]
  rintro ⟨l, lo, now, ⟨⟩⟩ dead hb
  dsimp only at *
  have hl : l.length ≤ 1000000 := of_decide_eq_true hb
  refine ⟨⟨by omega, by omega, rfl, rfl⟩, fun ⟨i, g, o⟩ hu => ⟨fun hi => ?_, fun hi => ?_⟩⟩
  · dsimp only at *
    obtain ⟨e, h1, h2, h3, h4, h5⟩ := hu.one hl hi
    simp only [old_eq', old_eq]
    have hsp : spent lo now dead (l.getD i.toNat (Ty.zero RestT)) = (hasN dead (l.getD i.toNat (Ty.zero RestT)).1 || oldT (l.getD i.toNat (Ty.zero RestT)).2.1 lo now) := rfl
    refine ⟨hu.i0, hi, fun hn => ⟨fun ho => ⟨h5, hu.bad hl hi (by rw [hsp, hn, ho.resolve_left (by decide)]; rfl), h3⟩, fun ho => ⟨h4, hu.good hl hi (by rw [hsp, hn, (Bool.eq_false_iff.2 ho)]; rfl), h3⟩⟩, fun hn => ⟨h5, hu.bad hl hi (by rw [hsp, hn]; rfl), h3⟩⟩
  · have h0 := hu.i0
    have ha := hu.a
    have hb := hu.b
    dsimp only at *
    rw [List.take_of_length_le (by omega)] at ha hb
    rw [ha, hb]
theorem v42 : VcB g42 300 Try.f42 cOldB := by
  constructor
  rw [v42_eq]
  simp only [Wr_iff, bcase_iff, true_and, and_true, decide_eq_true_eq, decide_eq_false_iff_not, Bool.and_eq_true, Bool.and_eq_false_iff, Bool.or_eq_true, Bool.or_eq_false_iff, Bool.not_eq_true', Bool.not_eq_false', Option.map_some, Option.getD_some, Option.isSome_some, Option.isSome_map, imp_self, nilL, noneO]
  rintro ⟨⟨cf, id, le, wa, fl, sc, cl, ⟨⟩⟩, now, ⟨⟩⟩ dead hb
  dsimp only at *
  have hs := hb
  rw [szB_iff] at hs
  have hsO := sft_lens cf.2.2.2.2.2.1 now dead id
  dsimp only at hs hsO
  exact ⟨decide_eq_true hs.1, by omega, fun _ => trivial, rfl⟩
theorem v15 : VcB g15 300 Try.f15 cAskB := by
  constructor
  rw [v15_eq]
  simp only [Wr_iff, bcase_iff, true_and, and_true, decide_eq_true_eq, decide_eq_false_iff_not, Bool.and_eq_true, Bool.and_eq_false_iff, Bool.or_eq_true, Bool.or_eq_false_iff, Bool.not_eq_true', Bool.not_eq_false', Option.map_some, Option.getD_some, Option.isSome_some, Option.isSome_map, imp_self, nilL, noneO]
  rintro ⟨b, c, now, ⟨⟩⟩ dead hb
  dsimp only at *
  have hs := hb
  rw [szB_iff] at hs
  obtain ⟨t1, t2⟩ := top_lens b.1.2.2.2.2.2.1 now dead b.2.1
  refine ⟨fun h => ⟨by simp, fun _ => trivial, ?_⟩, fun h => ⟨decide_eq_true hs.1, by omega, fun h2 => ⟨by simp; omega, by simp, by simp, fun _ => trivial, ?_⟩, fun h2 => ⟨fun h3 => ⟨by simp, fun _ => trivial, ?_⟩, fun h3 => ⟨by simp; omega, by simp, ⟨by omega, by simp⟩, fun _ => trivial, ?_⟩⟩⟩⟩
  · have e : askD b c now dead = (b, [(c, -1, 240, ())], [], false) := by rw [askD, h]; rfl
    rw [e]; rfl
  · have e : askD b c now dead = (mkB b.1 (topR b.1.2.2.2.2.2.1 now dead b.2.1) (b.2.2.1 ++ [topS b.1.2.2.2.2.2.1 now dead b.2.1]) b.2.2.2.1 b.2.2.2.2.1 b.2.2.2.2.2.1 b.2.2.2.2.2.2.1, [(c, topS b.1.2.2.2.2.2.1 now dead b.2.1, 0, ())], topO b.1.2.2.2.2.2.1 now dead b.2.1, false) := by rw [askD, h, h2]; rfl
    rw [e]; rfl
  · have e : askD b c now dead = (mkB b.1 (topR b.1.2.2.2.2.2.1 now dead b.2.1) b.2.2.1 b.2.2.2.1 b.2.2.2.2.1 b.2.2.2.2.2.1 b.2.2.2.2.2.2.1, [(c, -1, 230, ())], topO b.1.2.2.2.2.2.1 now dead b.2.1, false) := by rw [askD, h, h2, decide_eq_true (show b.1.2.2.1 ≤ (b.2.2.2.1.length : Int) from h3)]; rfl
    rw [e]; rfl
  · have e : askD b c now dead = (mkB b.1 (topR b.1.2.2.2.2.2.1 now dead b.2.1) b.2.2.1 (b.2.2.2.1 ++ [c]) (joinF b.2.2.2.2.1) b.2.2.2.2.2.1 b.2.2.2.2.2.2.1, [], topO b.1.2.2.2.2.2.1 now dead b.2.1, false) := by rw [askD, h, h2, decide_eq_false (show ¬ b.1.2.2.1 ≤ (b.2.2.2.1.length : Int) from h3)]; rfl
    rw [e]; rfl
theorem v16 : VcB g16 300 Try.f16 cBackB := by
  constructor
  rw [v16_eq]
  simp only [Wr_iff, bcase_iff, true_and, and_true, decide_eq_true_eq, decide_eq_false_iff_not, Bool.and_eq_true, Bool.and_eq_false_iff, Bool.or_eq_true, Bool.or_eq_false_iff, Bool.not_eq_true', Bool.not_eq_false', Option.map_some, Option.getD_some, Option.isSome_some, Option.isSome_map, imp_self, nilL, noneO]
  rintro ⟨⟨cf, id, le, wa, fl, sc, cl, ⟨⟩⟩, c, sock, keep, now, ⟨⟩⟩ dead hb
  dsimp only at *
  have hs := hb
  rw [szB_iff] at hs
  dsimp only at hs
  have hi := idx_cases sock le
  refine ⟨fun h => ⟨by simp, fun _ => trivial, ?_⟩, fun h => ⟨fun h2 => ⟨by simp, fun _ => trivial, ?_⟩, fun h2 => ?_⟩⟩
  · subst h
    have e : backD (cf, id, le, wa, fl, sc, true, ()) c sock keep now dead = ((cf, id, le, wa, fl, sc, true, ()), [(c, -1, 240, ())], [], false) := rfl
    rw [e]; rfl
  · subst h
    have e : backD (cf, id, le, wa, fl, sc, false, ()) c sock keep now dead = ((cf, id, le, wa, fl, sc, false, ()), [(c, -1, 80, ())], [], false) := by rw [backD]; dsimp only; rw [decide_eq_true h2]; rfl
    rw [e]; rfl
  subst h
  have ew : IntKind.wrap .i64 (idxN sock le + 1) = idxN sock le + 1 := wrap_id (by omega) (by omega)
  rw [ew]
  have hdl : (delL le (idxN sock le) (idxN sock le + 1)).length ≤ le.length := by
    rw [delL, List.length_append, List.length_take, List.length_drop]; omega
  have e0 : backD (cf, id, le, wa, fl, sc, false, ()) c sock keep now dead = bif keep && !hasN dead sock then fileD (mkB cf id (delL le (idxN sock le) (idxN sock le + 1)) wa fl sc false) [(c, -1, 0, ())] [] sock now else
        (mkB cf id (delL le (idxN sock le) (idxN sock le + 1)) wa fl sc false, [(c, -1, 0, ())], [sock], false) := by rw [backD]; dsimp only; rw [decide_eq_false h2]; rfl
  rw [e0]
  generalize delL le (idxN sock le) (idxN sock le + 1) = le' at *
  refine ⟨by omega, ⟨by show (0 : Int) ≤ _; omega, by omega, by omega, by omega⟩, by simp, fun hk => ⟨fun hh => ⟨fun hw => ?_, fun hw => ⟨fun hc => ⟨by simp; omega, by simp, fun _ => trivial, ?_⟩, fun hc => ⟨by simp, fun _ => trivial, ?_⟩⟩⟩, fun hh => ⟨by simp, fun _ => trivial, ?_⟩⟩, fun hk => ⟨by simp, fun _ => trivial, ?_⟩⟩
  · subst hk
    rw [hh]
    cases wa with
    | nil => exact absurd hw (by simp)
    | cons w ws =>
      simp only [List.length_cons] at hs hw ⊢
      refine ⟨by omega, by omega, by omega, by omega, by omega, by simp; omega, by simp; omega, by simp, by simp, fun _ => trivial, ?_⟩
      rw [show (bif true && !false then fileD (mkB cf id le' (w :: ws) fl sc false) [(c, -1, 0, ())] [] sock now else (mkB cf id le' (w :: ws) fl sc false, [(c, -1, 0, ())], [sock], false)) = fileD (mkB cf id le' (w :: ws) fl sc false) [(c, -1, 0, ())] [] sock now from rfl, fileW]
      simp [outB, outT, endsB, mkB]
  · subst hk
    rw [hh]
    have hw0 : wa = [] := List.length_eq_zero_iff.1 (by omega)
    subst hw0
    rw [show (bif true && !false then fileD (mkB cf id le' [] fl sc false) [(c, -1, 0, ())] [] sock now else (mkB cf id le' [] fl sc false, [(c, -1, 0, ())], [sock], false)) = fileD (mkB cf id le' [] fl sc false) [(c, -1, 0, ())] [] sock now from rfl, fileI hc]
    rfl
  · subst hk
    rw [hh]
    have hw0 : wa = [] := List.length_eq_zero_iff.1 (by omega)
    subst hw0
    rw [show (bif true && !false then fileD (mkB cf id le' [] fl sc false) [(c, -1, 0, ())] [] sock now else (mkB cf id le' [] fl sc false, [(c, -1, 0, ())], [sock], false)) = fileD (mkB cf id le' [] fl sc false) [(c, -1, 0, ())] [] sock now from rfl, fileS hc]
    rfl
  · have hh2 : hasN dead sock = true := hh.resolve_left (by decide)
    rw [hh2, Bool.not_true, Bool.and_false]; rfl
  · rw [hk, Bool.false_and]; rfl
theorem v17 : VcB g17 300 Try.f17 cToldB := by
  constructor
  rw [v17_eq]
  simp only [Wr_iff, bcase_iff, true_and, and_true, decide_eq_true_eq, decide_eq_false_iff_not, Bool.and_eq_true, Bool.and_eq_false_iff, Bool.or_eq_true, Bool.or_eq_false_iff, Bool.not_eq_true', Bool.not_eq_false', Option.map_some, Option.getD_some, Option.isSome_some, Option.isSome_map, imp_self, nilL, noneO]
  rintro ⟨⟨cf, id, le, wa, fl, sc, cl, ⟨⟩⟩, sock, er, bad, now, ⟨⟩⟩ dead hb
  dsimp only at *
  obtain ⟨hs, hbad⟩ := hb
  rw [szB_iff] at hs
  dsimp only at hs
  refine ⟨⟨by omega, hbad⟩, ?_⟩
  refine ⟨fun h0 => ⟨fun hc => ⟨fun hh => ⟨by simp, fun _ => trivial, ?_⟩, fun hh => ⟨fun _ => ⟨fun hw => ?_, fun hw => ⟨fun hcp => ⟨by simp; omega, by simp, fun _ => trivial, ?_⟩, fun hcp => ⟨by simp, fun _ => trivial, ?_⟩⟩⟩, fun hn => absurd h0 hn⟩⟩, fun hc => ⟨by simp, fun _ => trivial, ?_⟩⟩, fun h0 => ⟨fun hz => absurd hz h0, fun _ => ⟨fun h1 => ⟨AlI.zero _ _, fun ⟨k, o⟩ hu => ⟨fun hi => ⟨hu.i0, hi, ?_, hu.succ hs.2.2.1 hi⟩, fun hi => ⟨fun _ => trivial, ?_⟩⟩⟩, fun h1 => ⟨fun _ => trivial, ?_⟩⟩⟩⟩
  · subst h0; subst hc
    have hh2 : hasN dead sock = true := hh.resolve_left (by decide)
    have e : toldD (cf, id, le, wa, fl, sc, false, ()) sock 0 now dead = (mkB cf id le wa (endF fl) (noteS sc) false, [], [sock], false) := by unfold toldD; dsimp only; rw [hh2]; rfl
    rw [e]; rfl
  · subst h0; subst hc
    have hh2 : hasN dead sock = false := hh.resolve_left (by decide)
    have e : toldD (cf, id, le, wa, fl, sc, false, ()) sock 0 now dead = fileD (mkB cf id le wa (endF fl) (noteS sc) false) [] [] sock now := by unfold toldD; dsimp only; rw [hh2]; rfl
    rw [e]
    cases wa with
    | nil => exact absurd hw (by simp)
    | cons w ws =>
      simp only [List.length_cons] at hs hw ⊢
      refine ⟨by omega, by omega, by omega, by omega, by omega, by simp; omega, by simp; omega, by simp, by simp, fun _ => trivial, ?_⟩
      rw [fileW]
      simp [outB, outT, endsB, mkB]
  · subst h0; subst hc
    have hh2 : hasN dead sock = false := hh.resolve_left (by decide)
    have e : toldD (cf, id, le, wa, fl, sc, false, ()) sock 0 now dead = fileD (mkB cf id le wa (endF fl) (noteS sc) false) [] [] sock now := by unfold toldD; dsimp only; rw [hh2]; rfl
    rw [e]
    have hw0 : wa = [] := List.length_eq_zero_iff.1 (by omega)
    subst hw0
    rw [fileI hcp]; rfl
  · subst h0; subst hc
    have hh2 : hasN dead sock = false := hh.resolve_left (by decide)
    have e : toldD (cf, id, le, wa, fl, sc, false, ()) sock 0 now dead = fileD (mkB cf id le wa (endF fl) (noteS sc) false) [] [] sock now := by unfold toldD; dsimp only; rw [hh2]; rfl
    rw [e]
    have hw0 : wa = [] := List.length_eq_zero_iff.1 (by omega)
    subst hw0
    rw [fileS hcp]; rfl
  · subst h0; subst hc
    have e : toldD (cf, id, le, wa, fl, sc, true, ()) sock 0 now dead = (mkB cf id le wa (endF fl) (noteS sc) true, [], [sock], false) := by unfold toldD; dsimp only; rw [Bool.true_or]; rfl
    rw [e]; rfl
  · have := hu.len
    simp only [List.length_cons, List.length_nil]
    dsimp only at this ⊢
    omega
  · have ho := hu.done hi
    dsimp only at ho
    subst ho
    have e : toldD (cf, id, le, wa, fl, sc, cl, ()) sock er now dead = (mkB cf id le [] (partF (endF fl) (wa.length : Int)) (noteS sc) cl, failL wa er, [], partC (endF fl) (wa.length : Int)) := by
      unfold toldD; rw [decide_eq_false h0, decide_eq_true (show er ≠ 191 from h1), Bool.false_and]; rfl
    rw [e]; rfl
  · have e : toldD (cf, id, le, wa, fl, sc, cl, ()) sock er now dead = (mkB cf id le wa (endF fl) (noteS sc) cl, [], [], false) := by
      unfold toldD; rw [decide_eq_false h0, decide_eq_false (show ¬ er ≠ 191 from fun h => h h1), Bool.false_and]; rfl
    rw [e]; rfl
end Go.Proofs.Ytdkcgcgefgeooaa.Bk.B
namespace Go.Proofs.Ytdkcgcgefgeooaa.Bk.B
open Go Go.Eng 
set_option maxRecDepth 100000
theorem bval68 : BValid Try.prog GW 68 cSiftB := mkValidB gws Tb.mix Tb.tab_ok Tb.eqs_ok (by kernel_rfl) g68 rfl allB_nil allM_nil (allV_cons val78 allV_nil) (allI_cons Try.func75 (by kernel_rfl) (allI_cons Try.func85 (by kernel_rfl) (allI_cons Try.func86 (by kernel_rfl) (allI_cons Try.func102 (by kernel_rfl) (allI_cons Try.func103 (by kernel_rfl) allI_nil))))) Try.func68 (by kernel_rfl) rfl v68
theorem bval42 : BValid Try.prog GW 42 cOldB := mkValidB gws Tb.mix Tb.tab_ok Tb.eqs_ok (by kernel_rfl) g42 rfl (allB_cons bval68 allB_nil) allM_nil (allV_cons val70 allV_nil) (allI_cons Try.func27 (by kernel_rfl) (allI_cons Try.func29 (by kernel_rfl) (allI_cons Try.func45 (by kernel_rfl) (allI_cons Try.func49 (by kernel_rfl) (allI_cons Try.func50 (by kernel_rfl) (allI_cons Try.func57 (by kernel_rfl) (allI_cons Try.func58 (by kernel_rfl) allI_nil))))))) Try.func42 (by kernel_rfl) rfl v42
theorem bval15 : BValid Try.prog GW 15 cAskB := mkValidB gws Tb.mix Tb.tab_ok Tb.eqs_ok (by kernel_rfl) g15 rfl (allB_cons bval59 allB_nil) allM_nil (allV_cons val61 (allV_cons val62 (allV_cons val70 allV_nil))) (allI_cons Try.func27 (by kernel_rfl) (allI_cons Try.func29 (by kernel_rfl) (allI_cons Try.func36 (by kernel_rfl) (allI_cons Try.func45 (by kernel_rfl) (allI_cons Try.func49 (by kernel_rfl) (allI_cons Try.func50 (by kernel_rfl) (allI_cons Try.func57 (by kernel_rfl) (allI_cons Try.func58 (by kernel_rfl) (allI_cons Try.func60 (by kernel_rfl) allI_nil))))))))) Try.func15 (by kernel_rfl) rfl v15
theorem bval16 : BValid Try.prog GW 16 cBackB := mkValidB gws Tb.mix Tb.tab_ok Tb.eqs_ok (by kernel_rfl) g16 rfl allB_nil (allM_cons mval47 allM_nil) (allV_cons val46 (allV_cons val48 (allV_cons val61 (allV_cons val70 (allV_cons val71 (allV_cons val78 (allV_cons val79 allV_nil))))))) (allI_cons Try.func27 (by kernel_rfl) (allI_cons Try.func29 (by kernel_rfl) (allI_cons Try.func37 (by kernel_rfl) (allI_cons Try.func45 (by kernel_rfl) (allI_cons Try.func49 (by kernel_rfl) (allI_cons Try.func50 (by kernel_rfl) (allI_cons Try.func57 (by kernel_rfl) (allI_cons Try.func58 (by kernel_rfl) (allI_cons Try.func60 (by kernel_rfl) (allI_cons Try.func63 (by kernel_rfl) (allI_cons Try.func64 (by kernel_rfl) allI_nil))))))))))) Try.func16 (by kernel_rfl) rfl v16
theorem bval17 : BValid Try.prog GW 17 cToldB := mkValidB gws Tb.mix Tb.tab_ok Tb.eqs_ok (by kernel_rfl) g17 rfl allB_nil allM_nil (allV_cons val48 (allV_cons val61 (allV_cons val65 (allV_cons val66 (allV_cons val70 (allV_cons val71 (allV_cons val78 (allV_cons val79 allV_nil)))))))) (allI_cons Try.func27 (by kernel_rfl) (allI_cons Try.func29 (by kernel_rfl) (allI_cons Try.func38 (by kernel_rfl) (allI_cons Try.func45 (by kernel_rfl) (allI_cons Try.func49 (by kernel_rfl) (allI_cons Try.func50 (by kernel_rfl) (allI_cons Try.func56 (by kernel_rfl) (allI_cons Try.func57 (by kernel_rfl) (allI_cons Try.func58 (by kernel_rfl) (allI_cons Try.func60 (by kernel_rfl) (allI_cons Try.func63 (by kernel_rfl) (allI_cons Try.func64 (by kernel_rfl) allI_nil)))))))))))) Try.func17 (by kernel_rfl) rfl v17
end Go.Proofs.Ytdkcgcgefgeooaa.Bk.B
set_option maxRecDepth 100000
namespace Go.Proofs.Ytdkcgcgefgeooaa.Bk
open Go Go.Eng
/-! what a decision does to all there is -/
structure Ck (cf : Cf) (id : List Rs) (le wa : List Int) (fl : Fl) (cl : Bool) : Prop where
  f : flB fl = true
  r : fl.2.2.1 = (wa.length : Int)
  i : (id.length : Int) ≤ cf.2.1
  o : (id.map skOf ++ le).Nodup
  w : wa.Nodup
  x : wa = [] ∨ id = []
  c : cl = true → id = [] ∧ le = [] ∧ wa = []
theorem owns_len' (cf : Cf) (id : List Rs) (le wa : List Int) (fl : Fl) (sc : List Sc) (cl : Bool) : (ownsL (mkB cf id le wa fl sc cl)).length = id.length + le.length := by
  simp [ownsL]
theorem ck_iff {cf : Cf} {id : List Rs} {le wa : List Int} {fl : Fl} {sc : List Sc} {cl : Bool} : ckB (mkB cf id le wa fl sc cl) = true ↔ Ck cf id le wa fl cl := by
  have ho : ownsL (mkB cf id le wa fl sc cl) = id.map skOf ++ le := rfl
  simp only [ckB, Bool.and_eq_true, Bool.or_eq_true, decide_eq_true_eq, Bool.not_eq_true', ho]
  constructor
  · rintro ⟨⟨⟨h1, h2⟩, h3, h4, h5⟩, h6, h7⟩
    refine ⟨h1, h2, h3, h4, h5, h6.imp List.length_eq_zero_iff.1 List.length_eq_zero_iff.1, fun hc => ?_⟩
    rcases h7 with h7 | h7
    · rw [h7] at hc; cases hc
    · rw [List.length_append, List.length_map] at h7
      exact ⟨List.length_eq_zero_iff.1 (by omega), List.length_eq_zero_iff.1 (by omega), List.length_eq_zero_iff.1 (by omega)⟩
  · rintro ⟨h1, h2, h3, h4, h5, h6, h7⟩
    refine ⟨⟨⟨h1, h2⟩, h3, h4, h5⟩, h6.imp (fun h => by rw [h]; rfl) (fun h => by rw [h]; rfl), ?_⟩
    cases cl with
    | false => exact .inl rfl
    | true => obtain ⟨rfl, rfl, rfl⟩ := h7 rfl; exact .inr rfl
/-- who is served of those who joined -/
def svd (jo : List Int) (re : List Rp) : List Int := (re.filter fun r => decide (0 ≤ r.2.1) && hasN jo r.1).map fun r => r.1
theorem hasN_iff {l : List Int} {c : Int} : hasN l c = true ↔ c ∈ l := by simp [hasN]
structure Ld (tol shu jo sv : List Int) (ca so : Int) (cf : Cf) (id : List Rs) (le wa : List Int) (fl : Fl) (cl : Bool) (re : List Rp) (sh : List Int) (cut : Bool) (lo : List Int) : Prop where
  ck : Ck cf id le wa fl cl
  rN : (re.map fun r => r.1).Nodup
  rr : ∀ r ∈ re, 1 ≤ r.1 ∧ r.1 ≤ ca ∧ r.1 ∉ tol
  rs : ∀ r ∈ re, 0 ≤ r.2.1 → r.2.2.1 = 0 ∧ r.2.1 ∉ shu
  sN : (id.map skOf ++ (le ++ (lo ++ (shu ++ sh)))).Nodup
  sr : ∀ s ∈ id.map skOf ++ (le ++ (lo ++ (shu ++ sh))), 1 ≤ s ∧ s ≤ so
  sl : ((id.length + le.length + lo.length + shu.length + sh.length : Nat) : Int) = so
  wr : ∀ c ∈ wa, 1 ≤ c ∧ c ≤ ca ∧ c ∉ tol ∧ c ∉ re.map fun r => r.1
  jj : (sv ++ (svd jo re ++ wa)).Sublist jo
  jr : ∀ c ∈ jo, 1 ≤ c ∧ c ≤ ca
  jN : jo.Nodup
  cu : cut = true → 0 ≤ fl.1
end Go.Proofs.Ytdkcgcgefgeooaa.Bk
set_option maxRecDepth 100000
namespace Go.Proofs.Ytdkcgcgefgeooaa.Bk
open Go Go.Eng
/-! a book that is played -/
abbrev ActT : Ty := .cons I64 (.cons I64 (.cons I64 (.cons .bool (.cons .bool .unit))))
abbrev Ac := Int × Int × Int × Bool × Bool × Unit
def nthI (n m : Int) : Int := Int.tmod (IntKind.wrap .i64 (Int.tmod n m + m)) m
/-- what an act comes to: the book, callers, sockets, the turn, whether there was something to do -/
abbrev Gd := Bk × Int × Int × Tn × Bool
def inc (n : Int) : Int := IntKind.wrap .i64 (n + 1)
def outG (d : Dc) (ca so : Int) : Gd := (outB d, ca, so, outT d, true)
def doesF (b : Bk) (now ca so : Int) (dead : List Int) (x : Ac) : Gd :=
  if x.1 = 0 then outG (askD b (inc ca) now dead) (inc ca) so
  else if x.1 = 1 ∧ 0 < b.2.2.1.length then outG (backD b (inc ca) (b.2.2.1.getD (nthI x.2.1 b.2.2.1.length).toNat 0) x.2.2.2.1 now dead) (inc ca) so
  else if x.1 = 2 ∧ 0 < b.2.2.2.1.length then (quitB b (b.2.2.2.1.getD (nthI x.2.1 b.2.2.2.1.length).toNat 0), ca, so, quitT b (b.2.2.2.1.getD (nthI x.2.1 b.2.2.2.1.length).toNat 0), true)
  else if x.1 = 3 ∧ 0 ≤ b.2.2.2.2.1.1 then outG (toldD b (inc so) 0 now dead) ca (inc so)
  else if x.1 = 4 ∧ 0 ≤ b.2.2.2.2.1.1 then outG (toldD b (-1) (if b.2.2.2.2.1.2.1 = true then 191 else 190) now dead) ca so
  else if x.1 = 5 then outG (oldD b now dead) ca so
  else if x.1 = 6 ∧ x.2.2.2.1 = true then outG (closeD b (inc ca)) (inc ca) so
  else (b, ca, so, ([], [], false, false, ()), false)
structure DoI (b : Bk) (now ca so : Int) (dead : List Int) (x : Ac) (g : Gd) : Prop where
  e : g = doesF b now ca so dead x
/-- all there is: acts done, the book, now, callers, sockets, dead, told, served, joined, shut, races -/
abbrev Gl := Int × Bk × (Int × Int × Int) × (List Int × List Int × List Int × List Int × List Int) × Int
structure PyI (idle waiters age : Int) (l : List Ac) (x : Gl) : Prop where
  i0 : 0 ≤ x.1
  i1 : x.1 ≤ l.length
  sc : x.2.1.2.2.2.2.2.1 = []
  ld : Ld x.2.2.2.1.2.1 x.2.2.2.1.2.2.2.2 x.2.2.2.1.2.2.2.1 x.2.2.2.1.2.2.1 x.2.2.1.2.1 x.2.2.1.2.2 x.2.1.1 x.2.1.2.1 x.2.1.2.2.1 x.2.1.2.2.2.1 x.2.1.2.2.2.2.1 x.2.1.2.2.2.2.2.2.1 [] [] false []
  tr : ∀ c ∈ x.2.2.2.1.2.1, 1 ≤ c ∧ c ≤ x.2.2.1.2.1
  tN : x.2.2.2.1.2.1.Nodup
  ca : 0 ≤ x.2.2.1.2.1 ∧ x.2.2.1.2.1 ≤ x.1
  so : 0 ≤ x.2.2.1.2.2 ∧ x.2.2.1.2.2 ≤ x.1
  ra : 0 ≤ x.2.2.2.2 ∧ x.2.2.2.2 ≤ x.1
  dl : (x.2.2.2.1.1.length : Int) ≤ x.1
  on : x.2.1.2.2.2.1 ≠ [] → 0 ≤ x.2.1.2.2.2.2.1.1
structure JoI (wait was j0 : List Int) (x : Int × List Int) : Prop where
  i0 : 0 ≤ x.1
  i1 : x.1 ≤ wait.length
  e : x.2 = j0 ++ (wait.take x.1.toNat).filter fun c => !hasN was c
structure TuI (re : List Rp) (t0 s0 jo : List Int) (x : Int × List Int × List Int) : Prop where
  i0 : 0 ≤ x.1
  i1 : x.1 ≤ re.length
  e1 : x.2.1 = t0 ++ (re.take x.1.toNat).map fun r => r.1
  e2 : x.2.2 = s0 ++ ((re.take x.1.toNat).filter fun r => decide (0 ≤ r.2.1) && hasN jo r.1).map fun r => r.1
structure ShI (sh s0 : List Int) (x : Int × List Int) : Prop where
  i0 : 0 ≤ x.1
  i1 : x.1 ≤ sh.length
  e : x.2 = s0 ++ sh.take x.1.toNat
/-- how many of some stand among others, in their order -/
def atN (se : List Int) : List Int → Nat → Nat
  | [], at_ => at_
  | c :: r, at_ => atN se r (if at_ < se.length ∧ se.getD at_ 0 = c then at_ + 1 else at_)
structure AtI (jo se : List Int) (x : Int × Int) : Prop where
  i0 : 0 ≤ x.2
  i1 : x.2 ≤ jo.length
  e : x.1 = (atN se (jo.take x.2.toNat) 0 : Nat)
def rowsX (s : St) (k : Nat) (no : List Nat) : Go.Eng.Own := ((List.range 5).map (20 + ·)).filterMap fun j => if no.contains j then none else match (cells s k).getD j .any with
  | .own o => some (o, lookO s.own o)
  | _ => none
def rowS (s : St) (k : Nat) : Go.Eng.Own := match Go.Eng.look s.env k with
  | .own o => [(o, lookO s.own o)]
  | _ => []
/-- the row that a cell holds -/
def rid (s : St) (k j : Nat) : Nat := match (cells s k).getD j .any with
  | .own o => o
  | _ => 7000 + j
def pyA : LoopAnn where
  α := Gl
  keep := [0, 1, 2, 3, 9]
  okeep := []
  nxt := 9500
  env := fun _ x => [(10, .dat I64 x.1)]
  own := fun s x => [(ptO s 9, .cells 55 (leaves BookT x.2.1 ++ [.dat I64 x.2.2.1.1, .dat I64 x.2.2.1.2.1, .dat I64 x.2.2.1.2.2, .own 2000, .own 2001, .own 2002, .own 2003, .own 2004, .dat I64 x.2.2.2.2])), (2000, .row 3 I64 x.2.2.2.1.1), (2001, .row 3 I64 x.2.2.2.1.2.1), (2002, .row 3 I64 x.2.2.2.1.2.2.1), (2003, .row 3 I64 x.2.2.2.1.2.2.2.1), (2004, .row 3 I64 x.2.2.2.1.2.2.2.2)]
  inv := fun s x => PyI (bDat I64 s 0).out (bDat I64 s 1).out (bDat I64 s 2).out (bDat (.sl ActT) s 3).out x
  mu := fun s x => List.length (α := Ac) (bDat (.sl ActT) s 3).out - x.1.toNat
  pick := some fun _ s => ((bDat I64 s 10).out, (cDat BookT s 9 0).out, ((cDat I64 s 9 17).out, (cDat I64 s 9 18).out, (cDat I64 s 9 19).out), ((cRow I64 s 9 20).out, (cRow I64 s 9 21).out, (cRow I64 s 9 22).out, (cRow I64 s 9 23).out, (cRow I64 s 9 24).out), (cDat I64 s 9 25).out)
def dsA : LoopAnn where
  α := Gd
  keep := [0, 1, 2, 3, 9, 10, 12]
  okeep := []
  nxt := 9600
  env := fun _ x => [(13, .pt 3000 0), (14, .dat .bool x.2.2.2.2)]
  own := fun s x => [(ptO s 9, .cells 55 (leaves BookT x.1 ++ ([(cells s 9).getD 17 .any, .dat I64 x.2.1, .dat I64 x.2.2.1] ++ (cells s 9).drop 20))), (3000, .cells 37 (leaves TurnT x.2.2.2.1))] ++ (rowsX s 9 [] ++ rowS s 12)
  inv := fun s x => DoI (cDat BookT s 9 0).out (cDat I64 s 9 17).out (cDat I64 s 9 18).out (cDat I64 s 9 19).out (cRow I64 s 9 20).out (cDat ActT s 11 0).out x
  mu := fun _ _ => 0
  pick := some fun _ s => ((cDat BookT s 9 0).out, (cDat I64 s 9 18).out, (cDat I64 s 9 19).out, (cDat TurnT s 13 0).out, (bDat .bool s 14).out)
def deadF (dead : List Int) (so : Int) (x : Ac) : List Int := if x.2.2.2.2.1 = true ∧ 0 < so then dead ++ [IntKind.wrap .i64 (1 + nthI x.2.1 so)] else dead
structure DeI (dead : List Int) (so : Int) (x : Ac) (d : List Int) : Prop where
  e : d = deadF dead so x
def deA : LoopAnn where
  α := List Int
  keep := [0, 1, 2, 3, 9, 10, 11]
  okeep := []
  nxt := 9550
  env := fun _ _ => []
  own := fun s x => [(ptO s 9, .cells 55 ((cells s 9).set 20 (.own 2050))), (2050, .row 3 I64 x)] ++ (rowsX s 9 [20] ++ keepO s [11])
  inv := fun s x => DeI (cRow I64 s 9 20).out (cDat I64 s 9 19).out (cDat ActT s 11 0).out x
  mu := fun _ _ => 0
  pick := some fun _ s => (cRow I64 s 9 20).out
def joA : LoopAnn where
  α := Int × List Int
  keep := [0, 1, 2, 3, 9, 10, 12, 13, 14, 136, 137]
  okeep := []
  nxt := 9700
  env := fun _ x => [(138, .dat I64 x.1)]
  own := fun s x => [(ptO s 9, .cells 55 ((cells s 9).set 23 (.own 2100))), (2100, .row 3 I64 x.2)] ++ (rowsX s 9 [23] ++ (keepO s [13] ++ rowS s 12))
  inv := fun s x => JoI (bDat IL s 136).out (bRow I64 s 12).out (cRow I64 s 9 23).out x
  mu := fun s x => List.length (α := Int) (bDat IL s 136).out - x.1.toNat
  pick := some fun _ s => ((bDat I64 s 138).out, (cRow I64 s 9 23).out)
def tuA : LoopAnn where
  α := Int × List Int × List Int
  keep := [0, 3, 12, 13]
  okeep := []
  nxt := 9800
  env := fun _ x => [(14, .dat I64 x.1)]
  own := fun s x => [(ptO s 0, .cells 55 (cells s 0)), (rid s 0 21, .row 3 I64 x.2.1), (rid s 0 22, .row 3 I64 x.2.2)] ++ (rowsX s 0 [21, 22] ++ keepO s [3])
  inv := fun s x => TuI (bDat (.sl RepT) s 12).out (cRow I64 s 0 21).out (cRow I64 s 0 22).out (cRow I64 s 0 23).out x
  mu := fun s x => List.length (α := Rp) (bDat (.sl RepT) s 12).out - x.1.toNat
  pick := some fun _ s => ((bDat I64 s 14).out, (cRow I64 s 0 21).out, (cRow I64 s 0 22).out)
def shA : LoopAnn where
  α := Int × List Int
  keep := [0, 3, 71, 72]
  okeep := []
  nxt := 9900
  env := fun _ x => [(73, .dat I64 x.1)]
  own := fun s x => [(ptO s 0, .cells 55 (cells s 0)), (rid s 0 24, .row 3 I64 x.2)] ++ (rowsX s 0 [24] ++ keepO s [3])
  inv := fun s x => ShI (bDat IL s 71).out (cRow I64 s 0 24).out x
  mu := fun s x => List.length (α := Int) (bDat IL s 71).out - x.1.toNat
  pick := some fun _ s => ((bDat I64 s 73).out, (cRow I64 s 0 24).out)
def atA : LoopAnn where
  α := Int × Int
  keep := [0, 1, 2, 3, 9, 234, 235]
  okeep := []
  nxt := 9950
  env := fun _ x => [(17, .dat I64 x.1), (236, .dat I64 x.2)]
  own := fun s _ => keepO s [9] ++ rowsX s 9 []
  inv := fun s x => AtI (bRow I64 s 234).out (cRow I64 s 9 22).out x
  mu := fun s x => List.length (α := Int) (bRow I64 s 234).out - x.2.toNat
  pick := some fun _ s => ((bDat I64 s 17).out, (bDat I64 s 236).out)
def hsA : LoopAnn where
  α := Int
  keep := [0, 1]
  okeep := []
  nxt := 500
  env := fun _ x => [(5, .dat I64 x)]
  own := fun _ _ => []
  inv := fun s x => IdI (bDat I64 s 1).out (bDat IL s 0).out x
  mu := fun s x => List.length (α := Int) (bDat IL s 0).out - x.toNat
  pick := some fun _ s => (bDat I64 s 5).out
def cNth : Contract := conD (.cons I64 (.cons (.ptr ActT) .unit)) (.cons I64 .unit) (fun x => decide (0 < x.1) && Option.isSome x.2.1) fun x => (nthI (Option.getD (α := Ac) x.2.1 (Ty.zero ActT)).2.1 x.1, ())
def cPlayL : Contract := conD (.cons I64 (.cons I64 (.cons I64 (.cons (.sl ActT) .unit)))) (.cons .bool .unit) (fun _ => true) fun _ => (true, ())
end Go.Proofs.Ytdkcgcgefgeooaa.Bk
namespace Go.Proofs.Ytdkcgcgefgeooaa.Bk.B
open Go Go.Eng 
set_option maxRecDepth 100000
noncomputable def g21 : Cfg := { tab := Tb.tab, cons := [], inls := [], loops := [(2, hsA)], cuts := [], unroll := false, arrs := [], keys := [] }
noncomputable def g41 : Cfg := { tab := Tb.tab, cons := [], inls := [], loops := [], cuts := [], unroll := false, arrs := [], keys := [] }
noncomputable def g5 : Cfg := { tab := Tb.tab, cons := [(8, cWakes), (9, cQuit), (10, cCk), (13, cOwns), (14, cClose), (19, cNew), (21, cHas), (26, cStarted), (41, cNth)], bcons := [(15, cAskB), (16, cBackB), (17, cToldB), (42, cOldB)], lets := [22], inls := [(20, Try.f20), (22, Try.f22)], loops := [(5, pyA), (17, joA), (230002, tuA), (230014, shA), (28, atA)], cuts := [(13, deA), (15, dsA)], unroll := false, arrs := [], keys := [] }
end Go.Proofs.Ytdkcgcgefgeooaa.Bk.B
namespace Go.Proofs.Ytdkcgcgefgeooaa.Bk.B
open Go Go.Eng 
set_option maxRecDepth 100000
theorem v21_eq : vcFn g21 300 Try.f21 cHas.T = ( ∀ (x : List Int × Int × Unit), Wr (typedB (Ty.cons IL (Ty.cons I64 Ty.unit)) x = Bool.true ∧ Bool.true = Bool.true) → (Wr (IdI x.snd.fst x.fst (0 : Int)) ∧ Wr ((0 : Int) = (0 : Int)) ∧ Wr (x.fst = x.fst) ∧ Wr (x.snd.fst
  = x.snd.fst)) ∧ ∀ (x_1 : Int), Wr (IdI x.snd.fst x.fst x_1) → bcase (Decidable.decide (x_1 < (↑(List.length x.fst) : Int))) (Wr ((0 : Int) ≤ x_1) ∧ Wr (x_1 < (↑(List.length x.fst) : Int)) ∧ Wr (Bool.true = Bool.true) ∧
  bcase (Decidable.decide (List.getD x.fst (Int.toNat x_1) (0 : Int) = x.snd.fst)) ((Bool.true, ()) = (hasN x.fst x.snd.fst, ())) (Wr (IdI x.snd.fst x.fst (IntKind.wrap IntKind.i64 (x_1 + (1 : Int)))) ∧ Wr (List.length
  x.fst - Int.toNat (IntKind.wrap IntKind.i64 (x_1 + (1 : Int))) < List.length x.fst - Int.toNat x_1) ∧ Wr (IntKind.wrap IntKind.i64 (x_1 + (1 : Int)) = IntKind.wrap IntKind.i64 (x_1 + (1 : Int))) ∧ Wr (x.fst = x.fst) ∧
  Wr (x.snd.fst = x.snd.fst))) ((Bool.false, ()) = (hasN x.fst x.snd.fst, ()))) := by kernel_rfl
theorem v41_eq : vcFn g41 300 Try.f41 cNth.T = ( ∀ (x : Int × Option (Int × Int × Int × Bool × Bool × Unit) × Unit), Wr (typedB (Ty.cons I64 (Ty.cons (Ty.ptr ActT) Ty.unit)) x = Bool.true ∧ (Decidable.decide ((0 : Ty.El I64) < x.fst) && Option.isSome x.snd.fst) =
  Bool.true) → Wr (Option.isSome x.snd.fst = Bool.true) ∧ Wr (Option.isSome (Option.map (fun (x : Int × Int × Int × Bool × Bool × Unit) => x.snd.fst) x.snd.fst) = Bool.true) ∧ Wr (x.fst ≠ (0 : Int)) ∧ Wr (x.fst ≠ (0 :
  Int)) ∧ (Int.tmod (IntKind.wrap IntKind.i64 (Int.tmod (Option.getD (Option.map (fun (x : Int × Int × Int × Bool × Bool × Unit) => x.snd.fst) x.snd.fst) (0 : Int)) x.fst + x.fst)) x.fst, ()) = (nthI (Option.getD
  x.snd.fst (Ty.zero ActT)).snd.fst x.fst, ())) := by kernel_rfl
end Go.Proofs.Ytdkcgcgefgeooaa.Bk.B

/-
  A text of mine, of several parts: Bk4Vc, BkP4, Bk4V, Bk5Cfg, Bk5Vc, BkP5, Bk5V.
-/
import Derived.Test.YtdkcgcgefgeooaaBca
import Derived.Test.YtdkcgcgefgeooaaBcb
import Derived.Test.YtdkcgcgefgeooaaBcc
import Derived.Test.YtdkcgcgefgeooaaBcd
set_option linter.all false
namespace Go.Proofs.Ytdkcgcgefgeooaa.Bk
open Go Go.Eng 
set_option maxRecDepth 100000
theorem v8_eq : vcFn g8 300 Try.f8 cWakes = ( ∀ (x : Unit), Wr (Bool.true = Bool.true) → Wr (Bool.true = Bool.true) ∧ Wr (askOk (mkB ((0 : Int), (1 : Int), (1 : Int), (0 : Int), (0 : Int), (9 : Int), (0 : Int), (0 : Int), (0 : Int), ()) (nilL (Int × Int × Unit))
  (nilL Int) (nilL Int) noneF (nilL ((Int × (Int × Int × Int × Int × Int × Int × Int × Int × Unit) × Int × Unit) × Int × Unit)) Bool.false) (nilL Int) = Bool.true) ∧ Wr (askOk (outB (askD (mkB ((0 : Int), (1 : Int), (1 :
  Int), (0 : Int), (0 : Int), (9 : Int), (0 : Int), (0 : Int), (0 : Int), ()) (nilL (Int × Int × Unit)) (nilL Int) (nilL Int) noneF (nilL ((Int × (Int × Int × Int × Int × Int × Int × Int × Int × Unit) × Int × Unit) × Int
  × Unit)) Bool.false) (5 : Int) (0 : Int) (nilL Int))) (nilL Int) = Bool.true) ∧ Wr ((!(!(outT (askD (mkB ((0 : Int), (1 : Int), (1 : Int), (0 : Int), (0 : Int), (9 : Int), (0 : Int), (0 : Int), (0 : Int), ()) (nilL (Int
  × Int × Unit)) (nilL Int) (nilL Int) noneF (nilL ((Int × (Int × Int × Int × Int × Int × Int × Int × Int × Unit) × Int × Unit) × Int × Unit)) Bool.false) (5 : Int) (0 : Int) (nilL Int))).snd.snd.fst || !Decidable.decide
  ((↑(List.length (outT (askD (mkB ((0 : Int), (1 : Int), (1 : Int), (0 : Int), (0 : Int), (9 : Int), (0 : Int), (0 : Int), (0 : Int), ()) (nilL (Int × Int × Unit)) (nilL Int) (nilL Int) noneF (nilL ((Int × (Int × Int ×
  Int × Int × Int × Int × Int × Int × Unit) × Int × Unit) × Int × Unit)) Bool.false) (5 : Int) (0 : Int) (nilL Int))).fst) : Int) = (0 : Int)) || !Decidable.decide ((↑(List.length (outT (askD (outB (askD (mkB ((0 : Int),
  (1 : Int), (1 : Int), (0 : Int), (0 : Int), (9 : Int), (0 : Int), (0 : Int), (0 : Int), ()) (nilL (Int × Int × Unit)) (nilL Int) (nilL Int) noneF (nilL ((Int × (Int × Int × Int × Int × Int × Int × Int × Int × Unit) ×
  Int × Unit) × Int × Unit)) Bool.false) (5 : Int) (0 : Int) (nilL Int))) (6 : Int) (0 : Int) (nilL Int))).fst) : Int) = (1 : Int)))) = Bool.true → (0 : Int) ≤ (0 : Int)) ∧ Wr ((!(!(outT (askD (mkB ((0 : Int), (1 : Int),
  (1 : Int), (0 : Int), (0 : Int), (9 : Int), (0 : Int), (0 : Int), (0 : Int), ()) (nilL (Int × Int × Unit)) (nilL Int) (nilL Int) noneF (nilL ((Int × (Int × Int × Int × Int × Int × Int × Int × Int × Unit) × Int × Unit) ×
  Int × Unit)) Bool.false) (5 : Int) (0 : Int) (nilL Int))).snd.snd.fst || !Decidable.decide ((↑(List.length (outT (askD (mkB ((0 : Int), (1 : Int), (1 : Int), (0 : Int), (0 : Int), (9 : Int), (0 : Int), (0 : Int), (0 :
  Int), ()) (nilL (Int × Int × Unit)) (nilL Int) (nilL Int) noneF (nilL ((Int × (Int × Int × Int × Int × Int × Int × Int × Int × Unit) × Int × Unit) × Int × Unit)) Bool.false) (5 : Int) (0 : Int) (nilL Int))).fst) : Int)
  = (0 : Int)) || !Decidable.decide ((↑(List.length (outT (askD (outB (askD (mkB ((0 : Int), (1 : Int), (1 : Int), (0 : Int), (0 : Int), (9 : Int), (0 : Int), (0 : Int), (0 : Int), ()) (nilL (Int × Int × Unit)) (nilL Int)
  (nilL Int) noneF (nilL ((Int × (Int × Int × Int × Int × Int × Int × Int × Int × Unit) × Int × Unit) × Int × Unit)) Bool.false) (5 : Int) (0 : Int) (nilL Int))) (6 : Int) (0 : Int) (nilL Int))).fst) : Int) = (1 : Int))))
  = Bool.true → (0 : Int) < (↑(List.length (outT (askD (outB (askD (mkB ((0 : Int), (1 : Int), (1 : Int), (0 : Int), (0 : Int), (9 : Int), (0 : Int), (0 : Int), (0 : Int), ()) (nilL (Int × Int × Unit)) (nilL Int) (nilL
  Int) noneF (nilL ((Int × (Int × Int × Int × Int × Int × Int × Int × Int × Unit) × Int × Unit) × Int × Unit)) Bool.false) (5 : Int) (0 : Int) (nilL Int))) (6 : Int) (0 : Int) (nilL Int))).fst) : Int)) ∧ Wr ((!(!(outT
  (askD (mkB ((0 : Int), (1 : Int), (1 : Int), (0 : Int), (0 : Int), (9 : Int), (0 : Int), (0 : Int), (0 : Int), ()) (nilL (Int × Int × Unit)) (nilL Int) (nilL Int) noneF (nilL ((Int × (Int × Int × Int × Int × Int × Int ×
  Int × Int × Unit) × Int × Unit) × Int × Unit)) Bool.false) (5 : Int) (0 : Int) (nilL Int))).snd.snd.fst || !Decidable.decide ((↑(List.length (outT (askD (mkB ((0 : Int), (1 : Int), (1 : Int), (0 : Int), (0 : Int), (9 :
  Int), (0 : Int), (0 : Int), (0 : Int), ()) (nilL (Int × Int × Unit)) (nilL Int) (nilL Int) noneF (nilL ((Int × (Int × Int × Int × Int × Int × Int × Int × Int × Unit) × Int × Unit) × Int × Unit)) Bool.false) (5 : Int) (0
  : Int) (nilL Int))).fst) : Int) = (0 : Int)) || !Decidable.decide ((↑(List.length (outT (askD (outB (askD (mkB ((0 : Int), (1 : Int), (1 : Int), (0 : Int), (0 : Int), (9 : Int), (0 : Int), (0 : Int), (0 : Int), ())
  (nilL (Int × Int × Unit)) (nilL Int) (nilL Int) noneF (nilL ((Int × (Int × Int × Int × Int × Int × Int × Int × Int × Unit) × Int × Unit) × Int × Unit)) Bool.false) (5 : Int) (0 : Int) (nilL Int))) (6 : Int) (0 : Int)
  (nilL Int))).fst) : Int) = (1 : Int)))) = Bool.true → Bool.true = Bool.true) ∧ Wr ((!(!(outT (askD (mkB ((0 : Int), (1 : Int), (1 : Int), (0 : Int), (0 : Int), (9 : Int), (0 : Int), (0 : Int), (0 : Int), ()) (nilL (Int
  × Int × Unit)) (nilL Int) (nilL Int) noneF (nilL ((Int × (Int × Int × Int × Int × Int × Int × Int × Int × Unit) × Int × Unit) × Int × Unit)) Bool.false) (5 : Int) (0 : Int) (nilL Int))).snd.snd.fst || !Decidable.decide
  ((↑(List.length (outT (askD (mkB ((0 : Int), (1 : Int), (1 : Int), (0 : Int), (0 : Int), (9 : Int), (0 : Int), (0 : Int), (0 : Int), ()) (nilL (Int × Int × Unit)) (nilL Int) (nilL Int) noneF (nilL ((Int × (Int × Int ×
  Int × Int × Int × Int × Int × Int × Unit) × Int × Unit) × Int × Unit)) Bool.false) (5 : Int) (0 : Int) (nilL Int))).fst) : Int) = (0 : Int)) || !Decidable.decide ((↑(List.length (outT (askD (outB (askD (mkB ((0 : Int),
  (1 : Int), (1 : Int), (0 : Int), (0 : Int), (9 : Int), (0 : Int), (0 : Int), (0 : Int), ()) (nilL (Int × Int × Unit)) (nilL Int) (nilL Int) noneF (nilL ((Int × (Int × Int × Int × Int × Int × Int × Int × Int × Unit) ×
  Int × Unit) × Int × Unit)) Bool.false) (5 : Int) (0 : Int) (nilL Int))) (6 : Int) (0 : Int) (nilL Int))).fst) : Int) = (1 : Int)) || !Ty.eqb (Ty.cons (Ty.int IntKind.i64) (Ty.cons (Ty.int IntKind.i64) (Ty.cons (Ty.int
  IntKind.i64) Ty.unit))) (List.getD (outT (askD (outB (askD (mkB ((0 : Int), (1 : Int), (1 : Int), (0 : Int), (0 : Int), (9 : Int), (0 : Int), (0 : Int), (0 : Int), ()) (nilL (Int × Int × Unit)) (nilL Int) (nilL Int)
  noneF (nilL ((Int × (Int × Int × Int × Int × Int × Int × Int × Int × Unit) × Int × Unit) × Int × Unit)) Bool.false) (5 : Int) (0 : Int) (nilL Int))) (6 : Int) (0 : Int) (nilL Int))).fst (Int.toNat (0 : Int)) (Ty.zero
  RepT)) ((6 : Int), (-1 : Int), (230 : Int), ()))) = Bool.true → outB (askD (mkB ((0 : Int), (1 : Int), (1 : Int), (0 : Int), (0 : Int), (9 : Int), (0 : Int), (0 : Int), (0 : Int), ()) (nilL (Int × Int × Unit)) (nilL
  Int) (nilL Int) noneF (nilL ((Int × (Int × Int × Int × Int × Int × Int × Int × Int × Unit) × Int × Unit) × Int × Unit)) Bool.false) (5 : Int) (0 : Int) (nilL Int)) = outB (askD (outB (askD (mkB ((0 : Int), (1 : Int), (1
  : Int), (0 : Int), (0 : Int), (9 : Int), (0 : Int), (0 : Int), (0 : Int), ()) (nilL (Int × Int × Unit)) (nilL Int) (nilL Int) noneF (nilL ((Int × (Int × Int × Int × Int × Int × Int × Int × Int × Unit) × Int × Unit) ×
  Int × Unit)) Bool.false) (5 : Int) (0 : Int) (nilL Int))) (6 : Int) (0 : Int) (nilL Int))) ∧ Wr (Bool.true = Bool.true) ∧ Wr ((szB (startB (outB (askD (mkB ((0 : Int), (1 : Int), (1 : Int), (0 : Int), (0 : Int), (9 :
  Int), (0 : Int), (0 : Int), (0 : Int), ()) (nilL (Int × Int × Unit)) (nilL Int) (nilL Int) noneF (nilL ((Int × (Int × Int × Int × Int × Int × Int × Int × Int × Unit) × Int × Unit) × Int × Unit)) Bool.false) (5 : Int) (0
  : Int) (nilL Int))) (7 : Int)) && szI (nilL Int) && Decidable.decide (List.length (nilL (Int × (Int × Int × Int × Int × Int × Int × Int × Int × Unit) × Int × Unit)) = (0 : Nat))) = Bool.true) ∧ Wr ((szB (outB (toldD
  (startB (outB (askD (mkB ((0 : Int), (1 : Int), (1 : Int), (0 : Int), (0 : Int), (9 : Int), (0 : Int), (0 : Int), (0 : Int), ()) (nilL (Int × Int × Unit)) (nilL Int) (nilL Int) noneF (nilL ((Int × (Int × Int × Int × Int
  × Int × Int × Int × Int × Unit) × Int × Unit) × Int × Unit)) Bool.false) (5 : Int) (0 : Int) (nilL Int))) (7 : Int)) (3 : Int) (0 : Int) (1 : Int) (nilL Int))) && szI (nilL Int)) = Bool.true) ∧ Wr (Decidable.decide
  ((↑(List.length (outT (toldD (startB (outB (askD (mkB ((0 : Int), (1 : Int), (1 : Int), (0 : Int), (0 : Int), (9 : Int), (0 : Int), (0 : Int), (0 : Int), ()) (nilL (Int × Int × Unit)) (nilL Int) (nilL Int) noneF (nilL
  ((Int × (Int × Int × Int × Int × Int × Int × Int × Int × Unit) × Int × Unit) × Int × Unit)) Bool.false) (5 : Int) (0 : Int) (nilL Int))) (7 : Int)) (3 : Int) (0 : Int) (1 : Int) (nilL Int))).fst) : Int) = (1 : Int)) =
  Bool.true → (0 : Int) ≤ (0 : Int)) ∧ Wr (Decidable.decide ((↑(List.length (outT (toldD (startB (outB (askD (mkB ((0 : Int), (1 : Int), (1 : Int), (0 : Int), (0 : Int), (9 : Int), (0 : Int), (0 : Int), (0 : Int), ())
  (nilL (Int × Int × Unit)) (nilL Int) (nilL Int) noneF (nilL ((Int × (Int × Int × Int × Int × Int × Int × Int × Int × Unit) × Int × Unit) × Int × Unit)) Bool.false) (5 : Int) (0 : Int) (nilL Int))) (7 : Int)) (3 : Int)
  (0 : Int) (1 : Int) (nilL Int))).fst) : Int) = (1 : Int)) = Bool.true → (0 : Int) < (↑(List.length (outT (toldD (startB (outB (askD (mkB ((0 : Int), (1 : Int), (1 : Int), (0 : Int), (0 : Int), (9 : Int), (0 : Int), (0 :
  Int), (0 : Int), ()) (nilL (Int × Int × Unit)) (nilL Int) (nilL Int) noneF (nilL ((Int × (Int × Int × Int × Int × Int × Int × Int × Int × Unit) × Int × Unit) × Int × Unit)) Bool.false) (5 : Int) (0 : Int) (nilL Int)))
  (7 : Int)) (3 : Int) (0 : Int) (1 : Int) (nilL Int))).fst) : Int)) ∧ Wr (Decidable.decide ((↑(List.length (outT (toldD (startB (outB (askD (mkB ((0 : Int), (1 : Int), (1 : Int), (0 : Int), (0 : Int), (9 : Int), (0 :
  Int), (0 : Int), (0 : Int), ()) (nilL (Int × Int × Unit)) (nilL Int) (nilL Int) noneF (nilL ((Int × (Int × Int × Int × Int × Int × Int × Int × Int × Unit) × Int × Unit) × Int × Unit)) Bool.false) (5 : Int) (0 : Int)
  (nilL Int))) (7 : Int)) (3 : Int) (0 : Int) (1 : Int) (nilL Int))).fst) : Int) = (1 : Int)) = Bool.true → Bool.true = Bool.true) ∧ Wr ((Decidable.decide ((↑(List.length (outT (toldD (startB (outB (askD (mkB ((0 : Int),
  (1 : Int), (1 : Int), (0 : Int), (0 : Int), (9 : Int), (0 : Int), (0 : Int), (0 : Int), ()) (nilL (Int × Int × Unit)) (nilL Int) (nilL Int) noneF (nilL ((Int × (Int × Int × Int × Int × Int × Int × Int × Int × Unit) ×
  Int × Unit) × Int × Unit)) Bool.false) (5 : Int) (0 : Int) (nilL Int))) (7 : Int)) (3 : Int) (0 : Int) (1 : Int) (nilL Int))).fst) : Int) = (1 : Int)) && Ty.eqb (Ty.cons (Ty.int IntKind.i64) (Ty.cons (Ty.int
  IntKind.i64) (Ty.cons (Ty.int IntKind.i64) Ty.unit))) (List.getD (outT (toldD (startB (outB (askD (mkB ((0 : Int), (1 : Int), (1 : Int), (0 : Int), (0 : Int), (9 : Int), (0 : Int), (0 : Int), (0 : Int), ()) (nilL (Int ×
  Int × Unit)) (nilL Int) (nilL Int) noneF (nilL ((Int × (Int × Int × Int × Int × Int × Int × Int × Int × Unit) × Int × Unit) × Int × Unit)) Bool.false) (5 : Int) (0 : Int) (nilL Int))) (7 : Int)) (3 : Int) (0 : Int) (1 :
  Int) (nilL Int))).fst (Int.toNat (0 : Int)) (Ty.zero RepT)) ((5 : Int), (3 : Int), (0 : Int), ()) && Decidable.decide ((↑(List.length (outT (backD (outB (toldD (startB (outB (askD (mkB ((0 : Int), (1 : Int), (1 : Int),
  (0 : Int), (0 : Int), (9 : Int), (0 : Int), (0 : Int), (0 : Int), ()) (nilL (Int × Int × Unit)) (nilL Int) (nilL Int) noneF (nilL ((Int × (Int × Int × Int × Int × Int × Int × Int × Int × Unit) × Int × Unit) × Int ×
  Unit)) Bool.false) (5 : Int) (0 : Int) (nilL Int))) (7 : Int)) (3 : Int) (0 : Int) (1 : Int) (nilL Int))) (5 : Int) (3 : Int) Bool.true (2 : Int) (nilL Int))).fst) : Int) = (1 : Int))) = Bool.true → (0 : Int) ≤ (0 :
  Int)) ∧ Wr ((Decidable.decide ((↑(List.length (outT (toldD (startB (outB (askD (mkB ((0 : Int), (1 : Int), (1 : Int), (0 : Int), (0 : Int), (9 : Int), (0 : Int), (0 : Int), (0 : Int), ()) (nilL (Int × Int × Unit)) (nilL
  Int) (nilL Int) noneF (nilL ((Int × (Int × Int × Int × Int × Int × Int × Int × Int × Unit) × Int × Unit) × Int × Unit)) Bool.false) (5 : Int) (0 : Int) (nilL Int))) (7 : Int)) (3 : Int) (0 : Int) (1 : Int) (nilL
  Int))).fst) : Int) = (1 : Int)) && Ty.eqb (Ty.cons (Ty.int IntKind.i64) (Ty.cons (Ty.int IntKind.i64) (Ty.cons (Ty.int IntKind.i64) Ty.unit))) (List.getD (outT (toldD (startB (outB (askD (mkB ((0 : Int), (1 : Int), (1 :
  Int), (0 : Int), (0 : Int), (9 : Int), (0 : Int), (0 : Int), (0 : Int), ()) (nilL (Int × Int × Unit)) (nilL Int) (nilL Int) noneF (nilL ((Int × (Int × Int × Int × Int × Int × Int × Int × Int × Unit) × Int × Unit) × Int
  × Unit)) Bool.false) (5 : Int) (0 : Int) (nilL Int))) (7 : Int)) (3 : Int) (0 : Int) (1 : Int) (nilL Int))).fst (Int.toNat (0 : Int)) (Ty.zero RepT)) ((5 : Int), (3 : Int), (0 : Int), ()) && Decidable.decide
  ((↑(List.length (outT (backD (outB (toldD (startB (outB (askD (mkB ((0 : Int), (1 : Int), (1 : Int), (0 : Int), (0 : Int), (9 : Int), (0 : Int), (0 : Int), (0 : Int), ()) (nilL (Int × Int × Unit)) (nilL Int) (nilL Int)
  noneF (nilL ((Int × (Int × Int × Int × Int × Int × Int × Int × Int × Unit) × Int × Unit) × Int × Unit)) Bool.false) (5 : Int) (0 : Int) (nilL Int))) (7 : Int)) (3 : Int) (0 : Int) (1 : Int) (nilL Int))) (5 : Int) (3 :
  Int) Bool.true (2 : Int) (nilL Int))).fst) : Int) = (1 : Int))) = Bool.true → (0 : Int) < (↑(List.length (outT (backD (outB (toldD (startB (outB (askD (mkB ((0 : Int), (1 : Int), (1 : Int), (0 : Int), (0 : Int), (9 :
  Int), (0 : Int), (0 : Int), (0 : Int), ()) (nilL (Int × Int × Unit)) (nilL Int) (nilL Int) noneF (nilL ((Int × (Int × Int × Int × Int × Int × Int × Int × Int × Unit) × Int × Unit) × Int × Unit)) Bool.false) (5 : Int) (0
  : Int) (nilL Int))) (7 : Int)) (3 : Int) (0 : Int) (1 : Int) (nilL Int))) (5 : Int) (3 : Int) Bool.true (2 : Int) (nilL Int))).fst) : Int)) ∧ Wr ((Decidable.decide ((↑(List.length (outT (toldD (startB (outB (askD (mkB
  ((0 : Int), (1 : Int), (1 : Int), (0 : Int), (0 : Int), (9 : Int), (0 : Int), (0 : Int), (0 : Int), ()) (nilL (Int × Int × Unit)) (nilL Int) (nilL Int) noneF (nilL ((Int × (Int × Int × Int × Int × Int × Int × Int × Int
  × Unit) × Int × Unit) × Int × Unit)) Bool.false) (5 : Int) (0 : Int) (nilL Int))) (7 : Int)) (3 : Int) (0 : Int) (1 : Int) (nilL Int))).fst) : Int) = (1 : Int)) && Ty.eqb (Ty.cons (Ty.int IntKind.i64) (Ty.cons (Ty.int
  IntKind.i64) (Ty.cons (Ty.int IntKind.i64) Ty.unit))) (List.getD (outT (toldD (startB (outB (askD (mkB ((0 : Int), (1 : Int), (1 : Int), (0 : Int), (0 : Int), (9 : Int), (0 : Int), (0 : Int), (0 : Int), ()) (nilL (Int ×
  Int × Unit)) (nilL Int) (nilL Int) noneF (nilL ((Int × (Int × Int × Int × Int × Int × Int × Int × Int × Unit) × Int × Unit) × Int × Unit)) Bool.false) (5 : Int) (0 : Int) (nilL Int))) (7 : Int)) (3 : Int) (0 : Int) (1 :
  Int) (nilL Int))).fst (Int.toNat (0 : Int)) (Ty.zero RepT)) ((5 : Int), (3 : Int), (0 : Int), ()) && Decidable.decide ((↑(List.length (outT (backD (outB (toldD (startB (outB (askD (mkB ((0 : Int), (1 : Int), (1 : Int),
  (0 : Int), (0 : Int), (9 : Int), (0 : Int), (0 : Int), (0 : Int), ()) (nilL (Int × Int × Unit)) (nilL Int) (nilL Int) noneF (nilL ((Int × (Int × Int × Int × Int × Int × Int × Int × Int × Unit) × Int × Unit) × Int ×
  Unit)) Bool.false) (5 : Int) (0 : Int) (nilL Int))) (7 : Int)) (3 : Int) (0 : Int) (1 : Int) (nilL Int))) (5 : Int) (3 : Int) Bool.true (2 : Int) (nilL Int))).fst) : Int) = (1 : Int))) = Bool.true → Bool.true =
  Bool.true) ∧ Wr ((Decidable.decide ((↑(List.length (outT (toldD (startB (outB (askD (mkB ((0 : Int), (1 : Int), (1 : Int), (0 : Int), (0 : Int), (9 : Int), (0 : Int), (0 : Int), (0 : Int), ()) (nilL (Int × Int × Unit))
  (nilL Int) (nilL Int) noneF (nilL ((Int × (Int × Int × Int × Int × Int × Int × Int × Int × Unit) × Int × Unit) × Int × Unit)) Bool.false) (5 : Int) (0 : Int) (nilL Int))) (7 : Int)) (3 : Int) (0 : Int) (1 : Int) (nilL
  Int))).fst) : Int) = (1 : Int)) && Ty.eqb (Ty.cons (Ty.int IntKind.i64) (Ty.cons (Ty.int IntKind.i64) (Ty.cons (Ty.int IntKind.i64) Ty.unit))) (List.getD (outT (toldD (startB (outB (askD (mkB ((0 : Int), (1 : Int), (1 :
  Int), (0 : Int), (0 : Int), (9 : Int), (0 : Int), (0 : Int), (0 : Int), ()) (nilL (Int × Int × Unit)) (nilL Int) (nilL Int) noneF (nilL ((Int × (Int × Int × Int × Int × Int × Int × Int × Int × Unit) × Int × Unit) × Int
  × Unit)) Bool.false) (5 : Int) (0 : Int) (nilL Int))) (7 : Int)) (3 : Int) (0 : Int) (1 : Int) (nilL Int))).fst (Int.toNat (0 : Int)) (Ty.zero RepT)) ((5 : Int), (3 : Int), (0 : Int), ()) && Decidable.decide
  ((↑(List.length (outT (backD (outB (toldD (startB (outB (askD (mkB ((0 : Int), (1 : Int), (1 : Int), (0 : Int), (0 : Int), (9 : Int), (0 : Int), (0 : Int), (0 : Int), ()) (nilL (Int × Int × Unit)) (nilL Int) (nilL Int)
  noneF (nilL ((Int × (Int × Int × Int × Int × Int × Int × Int × Int × Unit) × Int × Unit) × Int × Unit)) Bool.false) (5 : Int) (0 : Int) (nilL Int))) (7 : Int)) (3 : Int) (0 : Int) (1 : Int) (nilL Int))) (5 : Int) (3 :
  Int) Bool.true (2 : Int) (nilL Int))).fst) : Int) = (1 : Int))) = Bool.true → Bool.true = Bool.true) ∧ Wr ((Decidable.decide ((↑(List.length (outT (toldD (startB (outB (askD (mkB ((0 : Int), (1 : Int), (1 : Int), (0 :
  Int), (0 : Int), (9 : Int), (0 : Int), (0 : Int), (0 : Int), ()) (nilL (Int × Int × Unit)) (nilL Int) (nilL Int) noneF (nilL ((Int × (Int × Int × Int × Int × Int × Int × Int × Int × Unit) × Int × Unit) × Int × Unit))
  Bool.false) (5 : Int) (0 : Int) (nilL Int))) (7 : Int)) (3 : Int) (0 : Int) (1 : Int) (nilL Int))).fst) : Int) = (1 : Int)) && Ty.eqb (Ty.cons (Ty.int IntKind.i64) (Ty.cons (Ty.int IntKind.i64) (Ty.cons (Ty.int
  IntKind.i64) Ty.unit))) (List.getD (outT (toldD (startB (outB (askD (mkB ((0 : Int), (1 : Int), (1 : Int), (0 : Int), (0 : Int), (9 : Int), (0 : Int), (0 : Int), (0 : Int), ()) (nilL (Int × Int × Unit)) (nilL Int) (nilL
  Int) noneF (nilL ((Int × (Int × Int × Int × Int × Int × Int × Int × Int × Unit) × Int × Unit) × Int × Unit)) Bool.false) (5 : Int) (0 : Int) (nilL Int))) (7 : Int)) (3 : Int) (0 : Int) (1 : Int) (nilL Int))).fst
  (Int.toNat (0 : Int)) (Ty.zero RepT)) ((5 : Int), (3 : Int), (0 : Int), ()) && Decidable.decide ((↑(List.length (outT (backD (outB (toldD (startB (outB (askD (mkB ((0 : Int), (1 : Int), (1 : Int), (0 : Int), (0 : Int),
  (9 : Int), (0 : Int), (0 : Int), (0 : Int), ()) (nilL (Int × Int × Unit)) (nilL Int) (nilL Int) noneF (nilL ((Int × (Int × Int × Int × Int × Int × Int × Int × Int × Unit) × Int × Unit) × Int × Unit)) Bool.false) (5 :
  Int) (0 : Int) (nilL Int))) (7 : Int)) (3 : Int) (0 : Int) (1 : Int) (nilL Int))) (5 : Int) (3 : Int) Bool.true (2 : Int) (nilL Int))).fst) : Int) = (1 : Int)) && Decidable.decide (Int.ofNat (0 : Nat) = (0 : Int)) &&
  Decidable.decide ((↑(List.length (outB (backD (outB (toldD (startB (outB (askD (mkB ((0 : Int), (1 : Int), (1 : Int), (0 : Int), (0 : Int), (9 : Int), (0 : Int), (0 : Int), (0 : Int), ()) (nilL (Int × Int × Unit)) (nilL
  Int) (nilL Int) noneF (nilL ((Int × (Int × Int × Int × Int × Int × Int × Int × Int × Unit) × Int × Unit) × Int × Unit)) Bool.false) (5 : Int) (0 : Int) (nilL Int))) (7 : Int)) (3 : Int) (0 : Int) (1 : Int) (nilL Int)))
  (5 : Int) (3 : Int) Bool.true (2 : Int) (nilL Int))).snd.fst) : Int) = (1 : Int))) = Bool.true → (0 : Int) ≤ (0 : Int)) ∧ Wr ((Decidable.decide ((↑(List.length (outT (toldD (startB (outB (askD (mkB ((0 : Int), (1 :
  Int), (1 : Int), (0 : Int), (0 : Int), (9 : Int), (0 : Int), (0 : Int), (0 : Int), ()) (nilL (Int × Int × Unit)) (nilL Int) (nilL Int) noneF (nilL ((Int × (Int × Int × Int × Int × Int × Int × Int × Int × Unit) × Int ×
  Unit) × Int × Unit)) Bool.false) (5 : Int) (0 : Int) (nilL Int))) (7 : Int)) (3 : Int) (0 : Int) (1 : Int) (nilL Int))).fst) : Int) = (1 : Int)) && Ty.eqb (Ty.cons (Ty.int IntKind.i64) (Ty.cons (Ty.int IntKind.i64)
  (Ty.cons (Ty.int IntKind.i64) Ty.unit))) (List.getD (outT (toldD (startB (outB (askD (mkB ((0 : Int), (1 : Int), (1 : Int), (0 : Int), (0 : Int), (9 : Int), (0 : Int), (0 : Int), (0 : Int), ()) (nilL (Int × Int × Unit))
  (nilL Int) (nilL Int) noneF (nilL ((Int × (Int × Int × Int × Int × Int × Int × Int × Int × Unit) × Int × Unit) × Int × Unit)) Bool.false) (5 : Int) (0 : Int) (nilL Int))) (7 : Int)) (3 : Int) (0 : Int) (1 : Int) (nilL
  Int))).fst (Int.toNat (0 : Int)) (Ty.zero RepT)) ((5 : Int), (3 : Int), (0 : Int), ()) && Decidable.decide ((↑(List.length (outT (backD (outB (toldD (startB (outB (askD (mkB ((0 : Int), (1 : Int), (1 : Int), (0 : Int),
  (0 : Int), (9 : Int), (0 : Int), (0 : Int), (0 : Int), ()) (nilL (Int × Int × Unit)) (nilL Int) (nilL Int) noneF (nilL ((Int × (Int × Int × Int × Int × Int × Int × Int × Int × Unit) × Int × Unit) × Int × Unit))
  Bool.false) (5 : Int) (0 : Int) (nilL Int))) (7 : Int)) (3 : Int) (0 : Int) (1 : Int) (nilL Int))) (5 : Int) (3 : Int) Bool.true (2 : Int) (nilL Int))).fst) : Int) = (1 : Int)) && Decidable.decide (Int.ofNat (0 : Nat) =
  (0 : Int)) && Decidable.decide ((↑(List.length (outB (backD (outB (toldD (startB (outB (askD (mkB ((0 : Int), (1 : Int), (1 : Int), (0 : Int), (0 : Int), (9 : Int), (0 : Int), (0 : Int), (0 : Int), ()) (nilL (Int × Int
  × Unit)) (nilL Int) (nilL Int) noneF (nilL ((Int × (Int × Int × Int × Int × Int × Int × Int × Int × Unit) × Int × Unit) × Int × Unit)) Bool.false) (5 : Int) (0 : Int) (nilL Int))) (7 : Int)) (3 : Int) (0 : Int) (1 :
  Int) (nilL Int))) (5 : Int) (3 : Int) Bool.true (2 : Int) (nilL Int))).snd.fst) : Int) = (1 : Int))) = Bool.true → (0 : Int) < (↑(List.length (outB (backD (outB (toldD (startB (outB (askD (mkB ((0 : Int), (1 : Int), (1
  : Int), (0 : Int), (0 : Int), (9 : Int), (0 : Int), (0 : Int), (0 : Int), ()) (nilL (Int × Int × Unit)) (nilL Int) (nilL Int) noneF (nilL ((Int × (Int × Int × Int × Int × Int × Int × Int × Int × Unit) × Int × Unit) ×
  Int × Unit)) Bool.false) (5 : Int) (0 : Int) (nilL Int))) (7 : Int)) (3 : Int) (0 : Int) (1 : Int) (nilL Int))) (5 : Int) (3 : Int) Bool.true (2 : Int) (nilL Int))).snd.fst) : Int)) ∧ Wr ((Decidable.decide
  ((↑(List.length (outT (toldD (startB (outB (askD (mkB ((0 : Int), (1 : Int), (1 : Int), (0 : Int), (0 : Int), (9 : Int), (0 : Int), (0 : Int), (0 : Int), ()) (nilL (Int × Int × Unit)) (nilL Int) (nilL Int) noneF (nilL
  ((Int × (Int × Int × Int × Int × Int × Int × Int × Int × Unit) × Int × Unit) × Int × Unit)) Bool.false) (5 : Int) (0 : Int) (nilL Int))) (7 : Int)) (3 : Int) (0 : Int) (1 : Int) (nilL Int))).fst) : Int) = (1 : Int)) &&
  Ty.eqb (Ty.cons (Ty.int IntKind.i64) (Ty.cons (Ty.int IntKind.i64) (Ty.cons (Ty.int IntKind.i64) Ty.unit))) (List.getD (outT (toldD (startB (outB (askD (mkB ((0 : Int), (1 : Int), (1 : Int), (0 : Int), (0 : Int), (9 :
  Int), (0 : Int), (0 : Int), (0 : Int), ()) (nilL (Int × Int × Unit)) (nilL Int) (nilL Int) noneF (nilL ((Int × (Int × Int × Int × Int × Int × Int × Int × Int × Unit) × Int × Unit) × Int × Unit)) Bool.false) (5 : Int) (0
  : Int) (nilL Int))) (7 : Int)) (3 : Int) (0 : Int) (1 : Int) (nilL Int))).fst (Int.toNat (0 : Int)) (Ty.zero RepT)) ((5 : Int), (3 : Int), (0 : Int), ()) && Decidable.decide ((↑(List.length (outT (backD (outB (toldD
  (startB (outB (askD (mkB ((0 : Int), (1 : Int), (1 : Int), (0 : Int), (0 : Int), (9 : Int), (0 : Int), (0 : Int), (0 : Int), ()) (nilL (Int × Int × Unit)) (nilL Int) (nilL Int) noneF (nilL ((Int × (Int × Int × Int × Int
  × Int × Int × Int × Int × Unit) × Int × Unit) × Int × Unit)) Bool.false) (5 : Int) (0 : Int) (nilL Int))) (7 : Int)) (3 : Int) (0 : Int) (1 : Int) (nilL Int))) (5 : Int) (3 : Int) Bool.true (2 : Int) (nilL Int))).fst) :
  Int) = (1 : Int)) && Decidable.decide (Int.ofNat (0 : Nat) = (0 : Int)) && Decidable.decide ((↑(List.length (outB (backD (outB (toldD (startB (outB (askD (mkB ((0 : Int), (1 : Int), (1 : Int), (0 : Int), (0 : Int), (9 :
  Int), (0 : Int), (0 : Int), (0 : Int), ()) (nilL (Int × Int × Unit)) (nilL Int) (nilL Int) noneF (nilL ((Int × (Int × Int × Int × Int × Int × Int × Int × Int × Unit) × Int × Unit) × Int × Unit)) Bool.false) (5 : Int) (0
  : Int) (nilL Int))) (7 : Int)) (3 : Int) (0 : Int) (1 : Int) (nilL Int))) (5 : Int) (3 : Int) Bool.true (2 : Int) (nilL Int))).snd.fst) : Int) = (1 : Int))) = Bool.true → Bool.true = Bool.true) ∧ Wr ((Decidable.decide
  ((↑(List.length (outT (toldD (startB (outB (askD (mkB ((0 : Int), (1 : Int), (1 : Int), (0 : Int), (0 : Int), (9 : Int), (0 : Int), (0 : Int), (0 : Int), ()) (nilL (Int × Int × Unit)) (nilL Int) (nilL Int) noneF (nilL
  ((Int × (Int × Int × Int × Int × Int × Int × Int × Int × Unit) × Int × Unit) × Int × Unit)) Bool.false) (5 : Int) (0 : Int) (nilL Int))) (7 : Int)) (3 : Int) (0 : Int) (1 : Int) (nilL Int))).fst) : Int) = (1 : Int)) &&
  Ty.eqb (Ty.cons (Ty.int IntKind.i64) (Ty.cons (Ty.int IntKind.i64) (Ty.cons (Ty.int IntKind.i64) Ty.unit))) (List.getD (outT (toldD (startB (outB (askD (mkB ((0 : Int), (1 : Int), (1 : Int), (0 : Int), (0 : Int), (9 :
  Int), (0 : Int), (0 : Int), (0 : Int), ()) (nilL (Int × Int × Unit)) (nilL Int) (nilL Int) noneF (nilL ((Int × (Int × Int × Int × Int × Int × Int × Int × Int × Unit) × Int × Unit) × Int × Unit)) Bool.false) (5 : Int) (0
  : Int) (nilL Int))) (7 : Int)) (3 : Int) (0 : Int) (1 : Int) (nilL Int))).fst (Int.toNat (0 : Int)) (Ty.zero RepT)) ((5 : Int), (3 : Int), (0 : Int), ()) && Decidable.decide ((↑(List.length (outT (backD (outB (toldD
  (startB (outB (askD (mkB ((0 : Int), (1 : Int), (1 : Int), (0 : Int), (0 : Int), (9 : Int), (0 : Int), (0 : Int), (0 : Int), ()) (nilL (Int × Int × Unit)) (nilL Int) (nilL Int) noneF (nilL ((Int × (Int × Int × Int × Int
  × Int × Int × Int × Int × Unit) × Int × Unit) × Int × Unit)) Bool.false) (5 : Int) (0 : Int) (nilL Int))) (7 : Int)) (3 : Int) (0 : Int) (1 : Int) (nilL Int))) (5 : Int) (3 : Int) Bool.true (2 : Int) (nilL Int))).fst) :
  Int) = (1 : Int)) && Decidable.decide (Int.ofNat (0 : Nat) = (0 : Int)) && Decidable.decide ((↑(List.length (outB (backD (outB (toldD (startB (outB (askD (mkB ((0 : Int), (1 : Int), (1 : Int), (0 : Int), (0 : Int), (9 :
  Int), (0 : Int), (0 : Int), (0 : Int), ()) (nilL (Int × Int × Unit)) (nilL Int) (nilL Int) noneF (nilL ((Int × (Int × Int × Int × Int × Int × Int × Int × Int × Unit) × Int × Unit) × Int × Unit)) Bool.false) (5 : Int) (0
  : Int) (nilL Int))) (7 : Int)) (3 : Int) (0 : Int) (1 : Int) (nilL Int))) (5 : Int) (3 : Int) Bool.true (2 : Int) (nilL Int))).snd.fst) : Int) = (1 : Int))) = Bool.true → Bool.true = Bool.true) ∧ Wr ((Decidable.decide
  ((↑(List.length (outT (toldD (startB (outB (askD (mkB ((0 : Int), (1 : Int), (1 : Int), (0 : Int), (0 : Int), (9 : Int), (0 : Int), (0 : Int), (0 : Int), ()) (nilL (Int × Int × Unit)) (nilL Int) (nilL Int) noneF (nilL
  ((Int × (Int × Int × Int × Int × Int × Int × Int × Int × Unit) × Int × Unit) × Int × Unit)) Bool.false) (5 : Int) (0 : Int) (nilL Int))) (7 : Int)) (3 : Int) (0 : Int) (1 : Int) (nilL Int))).fst) : Int) = (1 : Int)) &&
  Ty.eqb (Ty.cons (Ty.int IntKind.i64) (Ty.cons (Ty.int IntKind.i64) (Ty.cons (Ty.int IntKind.i64) Ty.unit))) (List.getD (outT (toldD (startB (outB (askD (mkB ((0 : Int), (1 : Int), (1 : Int), (0 : Int), (0 : Int), (9 :
  Int), (0 : Int), (0 : Int), (0 : Int), ()) (nilL (Int × Int × Unit)) (nilL Int) (nilL Int) noneF (nilL ((Int × (Int × Int × Int × Int × Int × Int × Int × Int × Unit) × Int × Unit) × Int × Unit)) Bool.false) (5 : Int) (0
  : Int) (nilL Int))) (7 : Int)) (3 : Int) (0 : Int) (1 : Int) (nilL Int))).fst (Int.toNat (0 : Int)) (Ty.zero RepT)) ((5 : Int), (3 : Int), (0 : Int), ()) && Decidable.decide ((↑(List.length (outT (backD (outB (toldD
  (startB (outB (askD (mkB ((0 : Int), (1 : Int), (1 : Int), (0 : Int), (0 : Int), (9 : Int), (0 : Int), (0 : Int), (0 : Int), ()) (nilL (Int × Int × Unit)) (nilL Int) (nilL Int) noneF (nilL ((Int × (Int × Int × Int × Int
  × Int × Int × Int × Int × Unit) × Int × Unit) × Int × Unit)) Bool.false) (5 : Int) (0 : Int) (nilL Int))) (7 : Int)) (3 : Int) (0 : Int) (1 : Int) (nilL Int))) (5 : Int) (3 : Int) Bool.true (2 : Int) (nilL Int))).fst) :
  Int) = (1 : Int)) && Decidable.decide (Int.ofNat (0 : Nat) = (0 : Int)) && Decidable.decide ((↑(List.length (outB (backD (outB (toldD (startB (outB (askD (mkB ((0 : Int), (1 : Int), (1 : Int), (0 : Int), (0 : Int), (9 :
  Int), (0 : Int), (0 : Int), (0 : Int), ()) (nilL (Int × Int × Unit)) (nilL Int) (nilL Int) noneF (nilL ((Int × (Int × Int × Int × Int × Int × Int × Int × Int × Unit) × Int × Unit) × Int × Unit)) Bool.false) (5 : Int) (0
  : Int) (nilL Int))) (7 : Int)) (3 : Int) (0 : Int) (1 : Int) (nilL Int))) (5 : Int) (3 : Int) Bool.true (2 : Int) (nilL Int))).snd.fst) : Int) = (1 : Int)) && Decidable.decide ((List.getD (outB (backD (outB (toldD
  (startB (outB (askD (mkB ((0 : Int), (1 : Int), (1 : Int), (0 : Int), (0 : Int), (9 : Int), (0 : Int), (0 : Int), (0 : Int), ()) (nilL (Int × Int × Unit)) (nilL Int) (nilL Int) noneF (nilL ((Int × (Int × Int × Int × Int
  × Int × Int × Int × Int × Unit) × Int × Unit) × Int × Unit)) Bool.false) (5 : Int) (0 : Int) (nilL Int))) (7 : Int)) (3 : Int) (0 : Int) (1 : Int) (nilL Int))) (5 : Int) (3 : Int) Bool.true (2 : Int) (nilL
  Int))).snd.fst (Int.toNat (0 : Int)) (Ty.zero RestT)).fst = (3 : Int))) = Bool.true → szB (outB (backD (outB (toldD (startB (outB (askD (mkB ((0 : Int), (1 : Int), (1 : Int), (0 : Int), (0 : Int), (9 : Int), (0 : Int),
  (0 : Int), (0 : Int), ()) (nilL (Int × Int × Unit)) (nilL Int) (nilL Int) noneF (nilL ((Int × (Int × Int × Int × Int × Int × Int × Int × Int × Unit) × Int × Unit) × Int × Unit)) Bool.false) (5 : Int) (0 : Int) (nilL
  Int))) (7 : Int)) (3 : Int) (0 : Int) (1 : Int) (nilL Int))) (5 : Int) (3 : Int) Bool.true (2 : Int) (nilL Int))) = Bool.true) ∧ Wr ((Decidable.decide ((↑(List.length (outT (toldD (startB (outB (askD (mkB ((0 : Int), (1
  : Int), (1 : Int), (0 : Int), (0 : Int), (9 : Int), (0 : Int), (0 : Int), (0 : Int), ()) (nilL (Int × Int × Unit)) (nilL Int) (nilL Int) noneF (nilL ((Int × (Int × Int × Int × Int × Int × Int × Int × Int × Unit) × Int ×
  Unit) × Int × Unit)) Bool.false) (5 : Int) (0 : Int) (nilL Int))) (7 : Int)) (3 : Int) (0 : Int) (1 : Int) (nilL Int))).fst) : Int) = (1 : Int)) && Ty.eqb (Ty.cons (Ty.int IntKind.i64) (Ty.cons (Ty.int IntKind.i64)
  (Ty.cons (Ty.int IntKind.i64) Ty.unit))) (List.getD (outT (toldD (startB (outB (askD (mkB ((0 : Int), (1 : Int), (1 : Int), (0 : Int), (0 : Int), (9 : Int), (0 : Int), (0 : Int), (0 : Int), ()) (nilL (Int × Int × Unit))
  (nilL Int) (nilL Int) noneF (nilL ((Int × (Int × Int × Int × Int × Int × Int × Int × Int × Unit) × Int × Unit) × Int × Unit)) Bool.false) (5 : Int) (0 : Int) (nilL Int))) (7 : Int)) (3 : Int) (0 : Int) (1 : Int) (nilL
  Int))).fst (Int.toNat (0 : Int)) (Ty.zero RepT)) ((5 : Int), (3 : Int), (0 : Int), ()) && Decidable.decide ((↑(List.length (outT (backD (outB (toldD (startB (outB (askD (mkB ((0 : Int), (1 : Int), (1 : Int), (0 : Int),
  (0 : Int), (9 : Int), (0 : Int), (0 : Int), (0 : Int), ()) (nilL (Int × Int × Unit)) (nilL Int) (nilL Int) noneF (nilL ((Int × (Int × Int × Int × Int × Int × Int × Int × Int × Unit) × Int × Unit) × Int × Unit))
  Bool.false) (5 : Int) (0 : Int) (nilL Int))) (7 : Int)) (3 : Int) (0 : Int) (1 : Int) (nilL Int))) (5 : Int) (3 : Int) Bool.true (2 : Int) (nilL Int))).fst) : Int) = (1 : Int)) && Decidable.decide (Int.ofNat (0 : Nat) =
  (0 : Int)) && Decidable.decide ((↑(List.length (outB (backD (outB (toldD (startB (outB (askD (mkB ((0 : Int), (1 : Int), (1 : Int), (0 : Int), (0 : Int), (9 : Int), (0 : Int), (0 : Int), (0 : Int), ()) (nilL (Int × Int
  × Unit)) (nilL Int) (nilL Int) noneF (nilL ((Int × (Int × Int × Int × Int × Int × Int × Int × Int × Unit) × Int × Unit) × Int × Unit)) Bool.false) (5 : Int) (0 : Int) (nilL Int))) (7 : Int)) (3 : Int) (0 : Int) (1 :
  Int) (nilL Int))) (5 : Int) (3 : Int) Bool.true (2 : Int) (nilL Int))).snd.fst) : Int) = (1 : Int)) && Decidable.decide ((List.getD (outB (backD (outB (toldD (startB (outB (askD (mkB ((0 : Int), (1 : Int), (1 : Int), (0
  : Int), (0 : Int), (9 : Int), (0 : Int), (0 : Int), (0 : Int), ()) (nilL (Int × Int × Unit)) (nilL Int) (nilL Int) noneF (nilL ((Int × (Int × Int × Int × Int × Int × Int × Int × Int × Unit) × Int × Unit) × Int × Unit))
  Bool.false) (5 : Int) (0 : Int) (nilL Int))) (7 : Int)) (3 : Int) (0 : Int) (1 : Int) (nilL Int))) (5 : Int) (3 : Int) Bool.true (2 : Int) (nilL Int))).snd.fst (Int.toNat (0 : Int)) (Ty.zero RestT)).fst = (3 : Int)) &&
  Decidable.decide (ckE (outB (backD (outB (toldD (startB (outB (askD (mkB ((0 : Int), (1 : Int), (1 : Int), (0 : Int), (0 : Int), (9 : Int), (0 : Int), (0 : Int), (0 : Int), ()) (nilL (Int × Int × Unit)) (nilL Int) (nilL
  Int) noneF (nilL ((Int × (Int × Int × Int × Int × Int × Int × Int × Int × Unit) × Int × Unit) × Int × Unit)) Bool.false) (5 : Int) (0 : Int) (nilL Int))) (7 : Int)) (3 : Int) (0 : Int) (1 : Int) (nilL Int))) (5 : Int)
  (3 : Int) Bool.true (2 : Int) (nilL Int))) = (0 : Int))) = Bool.true → Bool.true = Bool.true) ∧ Wr ((Decidable.decide ((↑(List.length (outT (toldD (startB (outB (askD (mkB ((0 : Int), (1 : Int), (1 : Int), (0 : Int), (0
  : Int), (9 : Int), (0 : Int), (0 : Int), (0 : Int), ()) (nilL (Int × Int × Unit)) (nilL Int) (nilL Int) noneF (nilL ((Int × (Int × Int × Int × Int × Int × Int × Int × Int × Unit) × Int × Unit) × Int × Unit)) Bool.false)
  (5 : Int) (0 : Int) (nilL Int))) (7 : Int)) (3 : Int) (0 : Int) (1 : Int) (nilL Int))).fst) : Int) = (1 : Int)) && Ty.eqb (Ty.cons (Ty.int IntKind.i64) (Ty.cons (Ty.int IntKind.i64) (Ty.cons (Ty.int IntKind.i64)
  Ty.unit))) (List.getD (outT (toldD (startB (outB (askD (mkB ((0 : Int), (1 : Int), (1 : Int), (0 : Int), (0 : Int), (9 : Int), (0 : Int), (0 : Int), (0 : Int), ()) (nilL (Int × Int × Unit)) (nilL Int) (nilL Int) noneF
  (nilL ((Int × (Int × Int × Int × Int × Int × Int × Int × Int × Unit) × Int × Unit) × Int × Unit)) Bool.false) (5 : Int) (0 : Int) (nilL Int))) (7 : Int)) (3 : Int) (0 : Int) (1 : Int) (nilL Int))).fst (Int.toNat (0 :
  Int)) (Ty.zero RepT)) ((5 : Int), (3 : Int), (0 : Int), ()) && Decidable.decide ((↑(List.length (outT (backD (outB (toldD (startB (outB (askD (mkB ((0 : Int), (1 : Int), (1 : Int), (0 : Int), (0 : Int), (9 : Int), (0 :
  Int), (0 : Int), (0 : Int), ()) (nilL (Int × Int × Unit)) (nilL Int) (nilL Int) noneF (nilL ((Int × (Int × Int × Int × Int × Int × Int × Int × Int × Unit) × Int × Unit) × Int × Unit)) Bool.false) (5 : Int) (0 : Int)
  (nilL Int))) (7 : Int)) (3 : Int) (0 : Int) (1 : Int) (nilL Int))) (5 : Int) (3 : Int) Bool.true (2 : Int) (nilL Int))).fst) : Int) = (1 : Int)) && Decidable.decide (Int.ofNat (0 : Nat) = (0 : Int)) && Decidable.decide
  ((↑(List.length (outB (backD (outB (toldD (startB (outB (askD (mkB ((0 : Int), (1 : Int), (1 : Int), (0 : Int), (0 : Int), (9 : Int), (0 : Int), (0 : Int), (0 : Int), ()) (nilL (Int × Int × Unit)) (nilL Int) (nilL Int)
  noneF (nilL ((Int × (Int × Int × Int × Int × Int × Int × Int × Int × Unit) × Int × Unit) × Int × Unit)) Bool.false) (5 : Int) (0 : Int) (nilL Int))) (7 : Int)) (3 : Int) (0 : Int) (1 : Int) (nilL Int))) (5 : Int) (3 :
  Int) Bool.true (2 : Int) (nilL Int))).snd.fst) : Int) = (1 : Int)) && Decidable.decide ((List.getD (outB (backD (outB (toldD (startB (outB (askD (mkB ((0 : Int), (1 : Int), (1 : Int), (0 : Int), (0 : Int), (9 : Int), (0
  : Int), (0 : Int), (0 : Int), ()) (nilL (Int × Int × Unit)) (nilL Int) (nilL Int) noneF (nilL ((Int × (Int × Int × Int × Int × Int × Int × Int × Int × Unit) × Int × Unit) × Int × Unit)) Bool.false) (5 : Int) (0 : Int)
  (nilL Int))) (7 : Int)) (3 : Int) (0 : Int) (1 : Int) (nilL Int))) (5 : Int) (3 : Int) Bool.true (2 : Int) (nilL Int))).snd.fst (Int.toNat (0 : Int)) (Ty.zero RestT)).fst = (3 : Int)) && Decidable.decide (ckE (outB
  (backD (outB (toldD (startB (outB (askD (mkB ((0 : Int), (1 : Int), (1 : Int), (0 : Int), (0 : Int), (9 : Int), (0 : Int), (0 : Int), (0 : Int), ()) (nilL (Int × Int × Unit)) (nilL Int) (nilL Int) noneF (nilL ((Int ×
  (Int × Int × Int × Int × Int × Int × Int × Int × Unit) × Int × Unit) × Int × Unit)) Bool.false) (5 : Int) (0 : Int) (nilL Int))) (7 : Int)) (3 : Int) (0 : Int) (1 : Int) (nilL Int))) (5 : Int) (3 : Int) Bool.true (2 :
  Int) (nilL Int))) = (0 : Int)) && !((outB (backD (outB (toldD (startB (outB (askD (mkB ((0 : Int), (1 : Int), (1 : Int), (0 : Int), (0 : Int), (9 : Int), (0 : Int), (0 : Int), (0 : Int), ()) (nilL (Int × Int × Unit))
  (nilL Int) (nilL Int) noneF (nilL ((Int × (Int × Int × Int × Int × Int × Int × Int × Int × Unit) × Int × Unit) × Int × Unit)) Bool.false) (5 : Int) (0 : Int) (nilL Int))) (7 : Int)) (3 : Int) (0 : Int) (1 : Int) (nilL
  Int))) (5 : Int) (3 : Int) Bool.true (2 : Int) (nilL Int))).snd.snd.snd.snd.snd.snd.fst && !onF (outB (backD (outB (toldD (startB (outB (askD (mkB ((0 : Int), (1 : Int), (1 : Int), (0 : Int), (0 : Int), (9 : Int), (0 :
  Int), (0 : Int), (0 : Int), ()) (nilL (Int × Int × Unit)) (nilL Int) (nilL Int) noneF (nilL ((Int × (Int × Int × Int × Int × Int × Int × Int × Int × Unit) × Int × Unit) × Int × Unit)) Bool.false) (5 : Int) (0 : Int)
  (nilL Int))) (7 : Int)) (3 : Int) (0 : Int) (1 : Int) (nilL Int))) (5 : Int) (3 : Int) Bool.true (2 : Int) (nilL Int))).snd.snd.snd.snd.fst)) = Bool.true → szB (outB (backD (outB (toldD (startB (outB (askD (mkB ((0 :
  Int), (1 : Int), (1 : Int), (0 : Int), (0 : Int), (9 : Int), (0 : Int), (0 : Int), (0 : Int), ()) (nilL (Int × Int × Unit)) (nilL Int) (nilL Int) noneF (nilL ((Int × (Int × Int × Int × Int × Int × Int × Int × Int ×
  Unit) × Int × Unit) × Int × Unit)) Bool.false) (5 : Int) (0 : Int) (nilL Int))) (7 : Int)) (3 : Int) (0 : Int) (1 : Int) (nilL Int))) (5 : Int) (3 : Int) Bool.true (2 : Int) (nilL Int))) = Bool.true) ∧ (Decidable.decide
  ((↑(List.length (outT (toldD (startB (outB (askD (mkB ((0 : Int), (1 : Int), (1 : Int), (0 : Int), (0 : Int), (9 : Int), (0 : Int), (0 : Int), (0 : Int), ()) (nilL (Int × Int × Unit)) (nilL Int) (nilL Int) noneF (nilL
  ((Int × (Int × Int × Int × Int × Int × Int × Int × Int × Unit) × Int × Unit) × Int × Unit)) Bool.false) (5 : Int) (0 : Int) (nilL Int))) (7 : Int)) (3 : Int) (0 : Int) (1 : Int) (nilL Int))).fst) : Int) = (1 : Int)) &&
  Ty.eqb (Ty.cons (Ty.int IntKind.i64) (Ty.cons (Ty.int IntKind.i64) (Ty.cons (Ty.int IntKind.i64) Ty.unit))) (List.getD (outT (toldD (startB (outB (askD (mkB ((0 : Int), (1 : Int), (1 : Int), (0 : Int), (0 : Int), (9 :
  Int), (0 : Int), (0 : Int), (0 : Int), ()) (nilL (Int × Int × Unit)) (nilL Int) (nilL Int) noneF (nilL ((Int × (Int × Int × Int × Int × Int × Int × Int × Int × Unit) × Int × Unit) × Int × Unit)) Bool.false) (5 : Int) (0
  : Int) (nilL Int))) (7 : Int)) (3 : Int) (0 : Int) (1 : Int) (nilL Int))).fst (Int.toNat (0 : Int)) (Ty.zero RepT)) ((5 : Int), (3 : Int), (0 : Int), ()) && Decidable.decide ((↑(List.length (outT (backD (outB (toldD
  (startB (outB (askD (mkB ((0 : Int), (1 : Int), (1 : Int), (0 : Int), (0 : Int), (9 : Int), (0 : Int), (0 : Int), (0 : Int), ()) (nilL (Int × Int × Unit)) (nilL Int) (nilL Int) noneF (nilL ((Int × (Int × Int × Int × Int
  × Int × Int × Int × Int × Unit) × Int × Unit) × Int × Unit)) Bool.false) (5 : Int) (0 : Int) (nilL Int))) (7 : Int)) (3 : Int) (0 : Int) (1 : Int) (nilL Int))) (5 : Int) (3 : Int) Bool.true (2 : Int) (nilL Int))).fst) :
  Int) = (1 : Int)) && Decidable.decide (Int.ofNat (0 : Nat) = (0 : Int)) && Decidable.decide ((↑(List.length (outB (backD (outB (toldD (startB (outB (askD (mkB ((0 : Int), (1 : Int), (1 : Int), (0 : Int), (0 : Int), (9 :
  Int), (0 : Int), (0 : Int), (0 : Int), ()) (nilL (Int × Int × Unit)) (nilL Int) (nilL Int) noneF (nilL ((Int × (Int × Int × Int × Int × Int × Int × Int × Int × Unit) × Int × Unit) × Int × Unit)) Bool.false) (5 : Int) (0
  : Int) (nilL Int))) (7 : Int)) (3 : Int) (0 : Int) (1 : Int) (nilL Int))) (5 : Int) (3 : Int) Bool.true (2 : Int) (nilL Int))).snd.fst) : Int) = (1 : Int)) && Decidable.decide ((List.getD (outB (backD (outB (toldD
  (startB (outB (askD (mkB ((0 : Int), (1 : Int), (1 : Int), (0 : Int), (0 : Int), (9 : Int), (0 : Int), (0 : Int), (0 : Int), ()) (nilL (Int × Int × Unit)) (nilL Int) (nilL Int) noneF (nilL ((Int × (Int × Int × Int × Int
  × Int × Int × Int × Int × Unit) × Int × Unit) × Int × Unit)) Bool.false) (5 : Int) (0 : Int) (nilL Int))) (7 : Int)) (3 : Int) (0 : Int) (1 : Int) (nilL Int))) (5 : Int) (3 : Int) Bool.true (2 : Int) (nilL
  Int))).snd.fst (Int.toNat (0 : Int)) (Ty.zero RestT)).fst = (3 : Int)) && Decidable.decide (ckE (outB (backD (outB (toldD (startB (outB (askD (mkB ((0 : Int), (1 : Int), (1 : Int), (0 : Int), (0 : Int), (9 : Int), (0 :
  Int), (0 : Int), (0 : Int), ()) (nilL (Int × Int × Unit)) (nilL Int) (nilL Int) noneF (nilL ((Int × (Int × Int × Int × Int × Int × Int × Int × Int × Unit) × Int × Unit) × Int × Unit)) Bool.false) (5 : Int) (0 : Int)
  (nilL Int))) (7 : Int)) (3 : Int) (0 : Int) (1 : Int) (nilL Int))) (5 : Int) (3 : Int) Bool.true (2 : Int) (nilL Int))) = (0 : Int)) && !((outB (backD (outB (toldD (startB (outB (askD (mkB ((0 : Int), (1 : Int), (1 :
  Int), (0 : Int), (0 : Int), (9 : Int), (0 : Int), (0 : Int), (0 : Int), ()) (nilL (Int × Int × Unit)) (nilL Int) (nilL Int) noneF (nilL ((Int × (Int × Int × Int × Int × Int × Int × Int × Int × Unit) × Int × Unit) × Int
  × Unit)) Bool.false) (5 : Int) (0 : Int) (nilL Int))) (7 : Int)) (3 : Int) (0 : Int) (1 : Int) (nilL Int))) (5 : Int) (3 : Int) Bool.true (2 : Int) (nilL Int))).snd.snd.snd.snd.snd.snd.fst && !onF (outB (backD (outB
  (toldD (startB (outB (askD (mkB ((0 : Int), (1 : Int), (1 : Int), (0 : Int), (0 : Int), (9 : Int), (0 : Int), (0 : Int), (0 : Int), ()) (nilL (Int × Int × Unit)) (nilL Int) (nilL Int) noneF (nilL ((Int × (Int × Int ×
  Int × Int × Int × Int × Int × Int × Unit) × Int × Unit) × Int × Unit)) Bool.false) (5 : Int) (0 : Int) (nilL Int))) (7 : Int)) (3 : Int) (0 : Int) (1 : Int) (nilL Int))) (5 : Int) (3 : Int) Bool.true (2 : Int) (nilL
  Int))).snd.snd.snd.snd.fst) && Decidable.decide ((↑(List.length (ownsL (outB (backD (outB (toldD (startB (outB (askD (mkB ((0 : Int), (1 : Int), (1 : Int), (0 : Int), (0 : Int), (9 : Int), (0 : Int), (0 : Int), (0 :
  Int), ()) (nilL (Int × Int × Unit)) (nilL Int) (nilL Int) noneF (nilL ((Int × (Int × Int × Int × Int × Int × Int × Int × Int × Unit) × Int × Unit) × Int × Unit)) Bool.false) (5 : Int) (0 : Int) (nilL Int))) (7 : Int))
  (3 : Int) (0 : Int) (1 : Int) (nilL Int))) (5 : Int) (3 : Int) Bool.true (2 : Int) (nilL Int))))) : Int) = (1 : Int)), ()) = (Bool.true, ())) := by kernel_rfl
theorem v3_eq : vcFn g3 300 Try.f3 cQuitL.T = ( ∀ (x : ((Int × Int × Int × Int × Int × Int × Int × Int × Int × Unit) × List (Int × Int × Unit) × List Int × List Int × (Int × Bool × Int × Unit) × List ((Int × (Int × Int × Int × Int × Int × Int × Int × Int × Unit) × Int
  × Unit) × Int × Unit) × Bool × Unit) × Int × Unit), Wr (typedB (Ty.cons BookT (Ty.cons I64 Ty.unit)) x = Bool.true ∧ Bool.true = Bool.true) → Wr (Bool.true = Bool.true) ∧ Wr ((!greatB x.fst) = Bool.true → szB x.fst =
  Bool.true) ∧ bcase (greatB x.fst || !Decidable.decide (ckE x.fst = (0 : Int)) || Decidable.decide ((↑(List.length x.fst.snd.snd.snd.fst) : Int) = (0 : Int))) (Wr (Bool.true = Bool.true) ∧ (Bool.true, ()) = (Bool.true,
  ())) (Wr ((↑(List.length x.fst.snd.snd.snd.fst) : Int) ≠ (0 : Int)) ∧ Wr ((↑(List.length x.fst.snd.snd.snd.fst) : Int) ≠ (0 : Int)) ∧ Wr ((0 : Int) ≤ Int.tmod (IntKind.wrap IntKind.i64 (Int.tmod x.snd.fst (↑(List.length
  x.fst.snd.snd.snd.fst) : Int) + (↑(List.length x.fst.snd.snd.snd.fst) : Int))) (↑(List.length x.fst.snd.snd.snd.fst) : Int)) ∧ Wr (Int.tmod (IntKind.wrap IntKind.i64 (Int.tmod x.snd.fst (↑(List.length
  x.fst.snd.snd.snd.fst) : Int) + (↑(List.length x.fst.snd.snd.snd.fst) : Int))) (↑(List.length x.fst.snd.snd.snd.fst) : Int) < (↑(List.length x.fst.snd.snd.snd.fst) : Int)) ∧ Wr (Bool.true = Bool.true) ∧ Wr (okW x.fst =
  Bool.true) ∧ Wr ((!!Decidable.decide ((↑(List.length (quitT x.fst (List.getD x.fst.snd.snd.snd.fst (Int.toNat (Int.tmod (IntKind.wrap IntKind.i64 (Int.tmod x.snd.fst (↑(List.length x.fst.snd.snd.snd.fst) : Int) +
  (↑(List.length x.fst.snd.snd.snd.fst) : Int))) (↑(List.length x.fst.snd.snd.snd.fst) : Int))) (0 : Int))).fst) : Int) = (1 : Int))) = Bool.true → (0 : Int) ≤ (0 : Int)) ∧ Wr ((!!Decidable.decide ((↑(List.length (quitT
  x.fst (List.getD x.fst.snd.snd.snd.fst (Int.toNat (Int.tmod (IntKind.wrap IntKind.i64 (Int.tmod x.snd.fst (↑(List.length x.fst.snd.snd.snd.fst) : Int) + (↑(List.length x.fst.snd.snd.snd.fst) : Int))) (↑(List.length
  x.fst.snd.snd.snd.fst) : Int))) (0 : Int))).fst) : Int) = (1 : Int))) = Bool.true → (0 : Int) < (↑(List.length (quitT x.fst (List.getD x.fst.snd.snd.snd.fst (Int.toNat (Int.tmod (IntKind.wrap IntKind.i64 (Int.tmod
  x.snd.fst (↑(List.length x.fst.snd.snd.snd.fst) : Int) + (↑(List.length x.fst.snd.snd.snd.fst) : Int))) (↑(List.length x.fst.snd.snd.snd.fst) : Int))) (0 : Int))).fst) : Int)) ∧ Wr ((!!Decidable.decide ((↑(List.length
  (quitT x.fst (List.getD x.fst.snd.snd.snd.fst (Int.toNat (Int.tmod (IntKind.wrap IntKind.i64 (Int.tmod x.snd.fst (↑(List.length x.fst.snd.snd.snd.fst) : Int) + (↑(List.length x.fst.snd.snd.snd.fst) : Int)))
  (↑(List.length x.fst.snd.snd.snd.fst) : Int))) (0 : Int))).fst) : Int) = (1 : Int))) = Bool.true → Bool.true = Bool.true) ∧ Wr ((!(!Decidable.decide ((↑(List.length (quitT x.fst (List.getD x.fst.snd.snd.snd.fst
  (Int.toNat (Int.tmod (IntKind.wrap IntKind.i64 (Int.tmod x.snd.fst (↑(List.length x.fst.snd.snd.snd.fst) : Int) + (↑(List.length x.fst.snd.snd.snd.fst) : Int))) (↑(List.length x.fst.snd.snd.snd.fst) : Int))) (0 :
  Int))).fst) : Int) = (1 : Int)) || !Ty.eqb (Ty.cons (Ty.int IntKind.i64) (Ty.cons (Ty.int IntKind.i64) (Ty.cons (Ty.int IntKind.i64) Ty.unit))) (List.getD (quitT x.fst (List.getD x.fst.snd.snd.snd.fst (Int.toNat
  (Int.tmod (IntKind.wrap IntKind.i64 (Int.tmod x.snd.fst (↑(List.length x.fst.snd.snd.snd.fst) : Int) + (↑(List.length x.fst.snd.snd.snd.fst) : Int))) (↑(List.length x.fst.snd.snd.snd.fst) : Int))) (0 : Int))).fst
  (Int.toNat (0 : Int)) (Ty.zero RepT)) (List.getD x.fst.snd.snd.snd.fst (Int.toNat (Int.tmod (IntKind.wrap IntKind.i64 (Int.tmod x.snd.fst (↑(List.length x.fst.snd.snd.snd.fst) : Int) + (↑(List.length
  x.fst.snd.snd.snd.fst) : Int))) (↑(List.length x.fst.snd.snd.snd.fst) : Int))) (0 : Int), (-1 : Int), (191 : Int), ()) || !Decidable.decide ((↑(List.length (quitT x.fst (List.getD x.fst.snd.snd.snd.fst (Int.toNat
  (Int.tmod (IntKind.wrap IntKind.i64 (Int.tmod x.snd.fst (↑(List.length x.fst.snd.snd.snd.fst) : Int) + (↑(List.length x.fst.snd.snd.snd.fst) : Int))) (↑(List.length x.fst.snd.snd.snd.fst) : Int))) (0 : Int))).snd.fst) :
  Int) = (0 : Int)) || !Decidable.decide ((↑(List.length (quitB x.fst (List.getD x.fst.snd.snd.snd.fst (Int.toNat (Int.tmod (IntKind.wrap IntKind.i64 (Int.tmod x.snd.fst (↑(List.length x.fst.snd.snd.snd.fst) : Int) +
  (↑(List.length x.fst.snd.snd.snd.fst) : Int))) (↑(List.length x.fst.snd.snd.snd.fst) : Int))) (0 : Int))).snd.snd.snd.fst) : Int) = IntKind.wrap IntKind.i64 ((↑(List.length x.fst.snd.snd.snd.fst) : Int) - (1 : Int)))))
  = Bool.true → szB (quitB x.fst (List.getD x.fst.snd.snd.snd.fst (Int.toNat (Int.tmod (IntKind.wrap IntKind.i64 (Int.tmod x.snd.fst (↑(List.length x.fst.snd.snd.snd.fst) : Int) + (↑(List.length x.fst.snd.snd.snd.fst) :
  Int))) (↑(List.length x.fst.snd.snd.snd.fst) : Int))) (0 : Int))) = Bool.true) ∧ bcase (!Decidable.decide ((↑(List.length (quitT x.fst (List.getD x.fst.snd.snd.snd.fst (Int.toNat (Int.tmod (IntKind.wrap IntKind.i64
  (Int.tmod x.snd.fst (↑(List.length x.fst.snd.snd.snd.fst) : Int) + (↑(List.length x.fst.snd.snd.snd.fst) : Int))) (↑(List.length x.fst.snd.snd.snd.fst) : Int))) (0 : Int))).fst) : Int) = (1 : Int)) || !Ty.eqb (Ty.cons
  (Ty.int IntKind.i64) (Ty.cons (Ty.int IntKind.i64) (Ty.cons (Ty.int IntKind.i64) Ty.unit))) (List.getD (quitT x.fst (List.getD x.fst.snd.snd.snd.fst (Int.toNat (Int.tmod (IntKind.wrap IntKind.i64 (Int.tmod x.snd.fst
  (↑(List.length x.fst.snd.snd.snd.fst) : Int) + (↑(List.length x.fst.snd.snd.snd.fst) : Int))) (↑(List.length x.fst.snd.snd.snd.fst) : Int))) (0 : Int))).fst (Int.toNat (0 : Int)) (Ty.zero RepT)) (List.getD
  x.fst.snd.snd.snd.fst (Int.toNat (Int.tmod (IntKind.wrap IntKind.i64 (Int.tmod x.snd.fst (↑(List.length x.fst.snd.snd.snd.fst) : Int) + (↑(List.length x.fst.snd.snd.snd.fst) : Int))) (↑(List.length
  x.fst.snd.snd.snd.fst) : Int))) (0 : Int), (-1 : Int), (191 : Int), ()) || !Decidable.decide ((↑(List.length (quitT x.fst (List.getD x.fst.snd.snd.snd.fst (Int.toNat (Int.tmod (IntKind.wrap IntKind.i64 (Int.tmod
  x.snd.fst (↑(List.length x.fst.snd.snd.snd.fst) : Int) + (↑(List.length x.fst.snd.snd.snd.fst) : Int))) (↑(List.length x.fst.snd.snd.snd.fst) : Int))) (0 : Int))).snd.fst) : Int) = (0 : Int)) || !Decidable.decide
  ((↑(List.length (quitB x.fst (List.getD x.fst.snd.snd.snd.fst (Int.toNat (Int.tmod (IntKind.wrap IntKind.i64 (Int.tmod x.snd.fst (↑(List.length x.fst.snd.snd.snd.fst) : Int) + (↑(List.length x.fst.snd.snd.snd.fst) :
  Int))) (↑(List.length x.fst.snd.snd.snd.fst) : Int))) (0 : Int))).snd.snd.snd.fst) : Int) = IntKind.wrap IntKind.i64 ((↑(List.length x.fst.snd.snd.snd.fst) : Int) - (1 : Int))) || !Decidable.decide (ckE (quitB x.fst
  (List.getD x.fst.snd.snd.snd.fst (Int.toNat (Int.tmod (IntKind.wrap IntKind.i64 (Int.tmod x.snd.fst (↑(List.length x.fst.snd.snd.snd.fst) : Int) + (↑(List.length x.fst.snd.snd.snd.fst) : Int))) (↑(List.length
  x.fst.snd.snd.snd.fst) : Int))) (0 : Int))) = (0 : Int))) ((Bool.false, ()) = (Bool.true, ())) ((Wr (QuI (↑(List.length (quitB x.fst (List.getD x.fst.snd.snd.snd.fst (Int.toNat (Int.tmod (IntKind.wrap IntKind.i64
  (Int.tmod x.snd.fst (↑(List.length x.fst.snd.snd.snd.fst) : Int) + (↑(List.length x.fst.snd.snd.snd.fst) : Int))) (↑(List.length x.fst.snd.snd.snd.fst) : Int))) (0 : Int))).snd.snd.snd.fst) : Int) (0 : Int)) ∧ Wr ((0 :
  Int) = (0 : Int)) ∧ Wr (Int.tmod (IntKind.wrap IntKind.i64 (Int.tmod x.snd.fst (↑(List.length x.fst.snd.snd.snd.fst) : Int) + (↑(List.length x.fst.snd.snd.snd.fst) : Int))) (↑(List.length x.fst.snd.snd.snd.fst) : Int) =
  Int.tmod (IntKind.wrap IntKind.i64 (Int.tmod x.snd.fst (↑(List.length x.fst.snd.snd.snd.fst) : Int) + (↑(List.length x.fst.snd.snd.snd.fst) : Int))) (↑(List.length x.fst.snd.snd.snd.fst) : Int)) ∧ Wr (List.getD
  x.fst.snd.snd.snd.fst (Int.toNat (Int.tmod (IntKind.wrap IntKind.i64 (Int.tmod x.snd.fst (↑(List.length x.fst.snd.snd.snd.fst) : Int) + (↑(List.length x.fst.snd.snd.snd.fst) : Int))) (↑(List.length
  x.fst.snd.snd.snd.fst) : Int))) (0 : Int) = List.getD x.fst.snd.snd.snd.fst (Int.toNat (Int.tmod (IntKind.wrap IntKind.i64 (Int.tmod x.snd.fst (↑(List.length x.fst.snd.snd.snd.fst) : Int) + (↑(List.length
  x.fst.snd.snd.snd.fst) : Int))) (↑(List.length x.fst.snd.snd.snd.fst) : Int))) (0 : Int)) ∧ Wr (x.fst.fst.fst = x.fst.fst.fst) ∧ Wr (x.fst.fst.snd.fst = x.fst.fst.snd.fst) ∧ Wr (x.fst.fst.snd.snd.fst =
  x.fst.fst.snd.snd.fst) ∧ Wr (x.fst.fst.snd.snd.snd.fst = x.fst.fst.snd.snd.snd.fst) ∧ Wr (x.fst.fst.snd.snd.snd.snd.fst = x.fst.fst.snd.snd.snd.snd.fst) ∧ Wr (x.fst.fst.snd.snd.snd.snd.snd.fst =
  x.fst.fst.snd.snd.snd.snd.snd.fst) ∧ Wr (x.fst.fst.snd.snd.snd.snd.snd.snd.fst = x.fst.fst.snd.snd.snd.snd.snd.snd.fst) ∧ Wr (x.fst.fst.snd.snd.snd.snd.snd.snd.snd.fst = x.fst.fst.snd.snd.snd.snd.snd.snd.snd.fst) ∧ Wr
  (x.fst.fst.snd.snd.snd.snd.snd.snd.snd.snd.fst = x.fst.fst.snd.snd.snd.snd.snd.snd.snd.snd.fst) ∧ Wr (x.fst.snd.fst = x.fst.snd.fst) ∧ Wr (x.fst.snd.snd.fst = x.fst.snd.snd.fst) ∧ Wr (x.fst.snd.snd.snd.fst =
  x.fst.snd.snd.snd.fst) ∧ Wr (x.fst.snd.snd.snd.snd.fst.fst = x.fst.snd.snd.snd.snd.fst.fst) ∧ Wr (x.fst.snd.snd.snd.snd.fst.snd.fst = x.fst.snd.snd.snd.snd.fst.snd.fst) ∧ Wr (x.fst.snd.snd.snd.snd.fst.snd.snd.fst =
  x.fst.snd.snd.snd.snd.fst.snd.snd.fst) ∧ Wr (x.fst.snd.snd.snd.snd.snd.fst = x.fst.snd.snd.snd.snd.snd.fst) ∧ Wr (x.fst.snd.snd.snd.snd.snd.snd.fst = x.fst.snd.snd.snd.snd.snd.snd.fst) ∧ Wr ((quitB x.fst (List.getD
  x.fst.snd.snd.snd.fst (Int.toNat (Int.tmod (IntKind.wrap IntKind.i64 (Int.tmod x.snd.fst (↑(List.length x.fst.snd.snd.snd.fst) : Int) + (↑(List.length x.fst.snd.snd.snd.fst) : Int))) (↑(List.length
  x.fst.snd.snd.snd.fst) : Int))) (0 : Int))).fst.fst = (quitB x.fst (List.getD x.fst.snd.snd.snd.fst (Int.toNat (Int.tmod (IntKind.wrap IntKind.i64 (Int.tmod x.snd.fst (↑(List.length x.fst.snd.snd.snd.fst) : Int) +
  (↑(List.length x.fst.snd.snd.snd.fst) : Int))) (↑(List.length x.fst.snd.snd.snd.fst) : Int))) (0 : Int))).fst.fst) ∧ Wr ((quitB x.fst (List.getD x.fst.snd.snd.snd.fst (Int.toNat (Int.tmod (IntKind.wrap IntKind.i64
  (Int.tmod x.snd.fst (↑(List.length x.fst.snd.snd.snd.fst) : Int) + (↑(List.length x.fst.snd.snd.snd.fst) : Int))) (↑(List.length x.fst.snd.snd.snd.fst) : Int))) (0 : Int))).fst.snd.fst = (quitB x.fst (List.getD
  x.fst.snd.snd.snd.fst (Int.toNat (Int.tmod (IntKind.wrap IntKind.i64 (Int.tmod x.snd.fst (↑(List.length x.fst.snd.snd.snd.fst) : Int) + (↑(List.length x.fst.snd.snd.snd.fst) : Int))) (↑(List.length
  x.fst.snd.snd.snd.fst) : Int))) (0 : Int))).fst.snd.fst) ∧ Wr ((quitB x.fst (List.getD x.fst.snd.snd.snd.fst (Int.toNat (Int.tmod (IntKind.wrap IntKind.i64 (Int.tmod x.snd.fst (↑(List.length x.fst.snd.snd.snd.fst) :
  Int) + (↑(List.length x.fst.snd.snd.snd.fst) : Int))) (↑(List.length x.fst.snd.snd.snd.fst) : Int))) (0 : Int))).fst.snd.snd.fst = (quitB x.fst (List.getD x.fst.snd.snd.snd.fst (Int.toNat (Int.tmod (IntKind.wrap
  IntKind.i64 (Int.tmod x.snd.fst (↑(List.length x.fst.snd.snd.snd.fst) : Int) + (↑(List.length x.fst.snd.snd.snd.fst) : Int))) (↑(List.length x.fst.snd.snd.snd.fst) : Int))) (0 : Int))).fst.snd.snd.fst) ∧ Wr ((quitB
  x.fst (List.getD x.fst.snd.snd.snd.fst (Int.toNat (Int.tmod (IntKind.wrap IntKind.i64 (Int.tmod x.snd.fst (↑(List.length x.fst.snd.snd.snd.fst) : Int) + (↑(List.length x.fst.snd.snd.snd.fst) : Int))) (↑(List.length
  x.fst.snd.snd.snd.fst) : Int))) (0 : Int))).fst.snd.snd.snd.fst = (quitB x.fst (List.getD x.fst.snd.snd.snd.fst (Int.toNat (Int.tmod (IntKind.wrap IntKind.i64 (Int.tmod x.snd.fst (↑(List.length x.fst.snd.snd.snd.fst) :
  Int) + (↑(List.length x.fst.snd.snd.snd.fst) : Int))) (↑(List.length x.fst.snd.snd.snd.fst) : Int))) (0 : Int))).fst.snd.snd.snd.fst) ∧ Wr ((quitB x.fst (List.getD x.fst.snd.snd.snd.fst (Int.toNat (Int.tmod
  (IntKind.wrap IntKind.i64 (Int.tmod x.snd.fst (↑(List.length x.fst.snd.snd.snd.fst) : Int) + (↑(List.length x.fst.snd.snd.snd.fst) : Int))) (↑(List.length x.fst.snd.snd.snd.fst) : Int))) (0 :
  Int))).fst.snd.snd.snd.snd.fst = (quitB x.fst (List.getD x.fst.snd.snd.snd.fst (Int.toNat (Int.tmod (IntKind.wrap IntKind.i64 (Int.tmod x.snd.fst (↑(List.length x.fst.snd.snd.snd.fst) : Int) + (↑(List.length
  x.fst.snd.snd.snd.fst) : Int))) (↑(List.length x.fst.snd.snd.snd.fst) : Int))) (0 : Int))).fst.snd.snd.snd.snd.fst) ∧ Wr ((quitB x.fst (List.getD x.fst.snd.snd.snd.fst (Int.toNat (Int.tmod (IntKind.wrap IntKind.i64
  (Int.tmod x.snd.fst (↑(List.length x.fst.snd.snd.snd.fst) : Int) + (↑(List.length x.fst.snd.snd.snd.fst) : Int))) (↑(List.length x.fst.snd.snd.snd.fst) : Int))) (0 : Int))).fst.snd.snd.snd.snd.snd.fst = (quitB x.fst
  (List.getD x.fst.snd.snd.snd.fst (Int.toNat (Int.tmod (IntKind.wrap IntKind.i64 (Int.tmod x.snd.fst (↑(List.length x.fst.snd.snd.snd.fst) : Int) + (↑(List.length x.fst.snd.snd.snd.fst) : Int))) (↑(List.length
  x.fst.snd.snd.snd.fst) : Int))) (0 : Int))).fst.snd.snd.snd.snd.snd.fst) ∧ Wr ((quitB x.fst (List.getD x.fst.snd.snd.snd.fst (Int.toNat (Int.tmod (IntKind.wrap IntKind.i64 (Int.tmod x.snd.fst (↑(List.length
  x.fst.snd.snd.snd.fst) : Int) + (↑(List.length x.fst.snd.snd.snd.fst) : Int))) (↑(List.length x.fst.snd.snd.snd.fst) : Int))) (0 : Int))).fst.snd.snd.snd.snd.snd.snd.fst = (quitB x.fst (List.getD x.fst.snd.snd.snd.fst
  (Int.toNat (Int.tmod (IntKind.wrap IntKind.i64 (Int.tmod x.snd.fst (↑(List.length x.fst.snd.snd.snd.fst) : Int) + (↑(List.length x.fst.snd.snd.snd.fst) : Int))) (↑(List.length x.fst.snd.snd.snd.fst) : Int))) (0 :
  Int))).fst.snd.snd.snd.snd.snd.snd.fst) ∧ Wr ((quitB x.fst (List.getD x.fst.snd.snd.snd.fst (Int.toNat (Int.tmod (IntKind.wrap IntKind.i64 (Int.tmod x.snd.fst (↑(List.length x.fst.snd.snd.snd.fst) : Int) +
  (↑(List.length x.fst.snd.snd.snd.fst) : Int))) (↑(List.length x.fst.snd.snd.snd.fst) : Int))) (0 : Int))).fst.snd.snd.snd.snd.snd.snd.snd.fst = (quitB x.fst (List.getD x.fst.snd.snd.snd.fst (Int.toNat (Int.tmod
  (IntKind.wrap IntKind.i64 (Int.tmod x.snd.fst (↑(List.length x.fst.snd.snd.snd.fst) : Int) + (↑(List.length x.fst.snd.snd.snd.fst) : Int))) (↑(List.length x.fst.snd.snd.snd.fst) : Int))) (0 :
  Int))).fst.snd.snd.snd.snd.snd.snd.snd.fst) ∧ Wr ((quitB x.fst (List.getD x.fst.snd.snd.snd.fst (Int.toNat (Int.tmod (IntKind.wrap IntKind.i64 (Int.tmod x.snd.fst (↑(List.length x.fst.snd.snd.snd.fst) : Int) +
  (↑(List.length x.fst.snd.snd.snd.fst) : Int))) (↑(List.length x.fst.snd.snd.snd.fst) : Int))) (0 : Int))).fst.snd.snd.snd.snd.snd.snd.snd.snd.fst = (quitB x.fst (List.getD x.fst.snd.snd.snd.fst (Int.toNat (Int.tmod
  (IntKind.wrap IntKind.i64 (Int.tmod x.snd.fst (↑(List.length x.fst.snd.snd.snd.fst) : Int) + (↑(List.length x.fst.snd.snd.snd.fst) : Int))) (↑(List.length x.fst.snd.snd.snd.fst) : Int))) (0 :
  Int))).fst.snd.snd.snd.snd.snd.snd.snd.snd.fst) ∧ Wr ((quitB x.fst (List.getD x.fst.snd.snd.snd.fst (Int.toNat (Int.tmod (IntKind.wrap IntKind.i64 (Int.tmod x.snd.fst (↑(List.length x.fst.snd.snd.snd.fst) : Int) +
  (↑(List.length x.fst.snd.snd.snd.fst) : Int))) (↑(List.length x.fst.snd.snd.snd.fst) : Int))) (0 : Int))).snd.fst = (quitB x.fst (List.getD x.fst.snd.snd.snd.fst (Int.toNat (Int.tmod (IntKind.wrap IntKind.i64 (Int.tmod
  x.snd.fst (↑(List.length x.fst.snd.snd.snd.fst) : Int) + (↑(List.length x.fst.snd.snd.snd.fst) : Int))) (↑(List.length x.fst.snd.snd.snd.fst) : Int))) (0 : Int))).snd.fst) ∧ Wr ((quitB x.fst (List.getD
  x.fst.snd.snd.snd.fst (Int.toNat (Int.tmod (IntKind.wrap IntKind.i64 (Int.tmod x.snd.fst (↑(List.length x.fst.snd.snd.snd.fst) : Int) + (↑(List.length x.fst.snd.snd.snd.fst) : Int))) (↑(List.length
  x.fst.snd.snd.snd.fst) : Int))) (0 : Int))).snd.snd.fst = (quitB x.fst (List.getD x.fst.snd.snd.snd.fst (Int.toNat (Int.tmod (IntKind.wrap IntKind.i64 (Int.tmod x.snd.fst (↑(List.length x.fst.snd.snd.snd.fst) : Int) +
  (↑(List.length x.fst.snd.snd.snd.fst) : Int))) (↑(List.length x.fst.snd.snd.snd.fst) : Int))) (0 : Int))).snd.snd.fst) ∧ Wr ((quitB x.fst (List.getD x.fst.snd.snd.snd.fst (Int.toNat (Int.tmod (IntKind.wrap IntKind.i64
  (Int.tmod x.snd.fst (↑(List.length x.fst.snd.snd.snd.fst) : Int) + (↑(List.length x.fst.snd.snd.snd.fst) : Int))) (↑(List.length x.fst.snd.snd.snd.fst) : Int))) (0 : Int))).snd.snd.snd.fst = (quitB x.fst (List.getD
  x.fst.snd.snd.snd.fst (Int.toNat (Int.tmod (IntKind.wrap IntKind.i64 (Int.tmod x.snd.fst (↑(List.length x.fst.snd.snd.snd.fst) : Int) + (↑(List.length x.fst.snd.snd.snd.fst) : Int))) (↑(List.length
  x.fst.snd.snd.snd.fst) : Int))) (0 : Int))).snd.snd.snd.fst) ∧ Wr ((quitB x.fst (List.getD x.fst.snd.snd.snd.fst (Int.toNat (Int.tmod (IntKind.wrap IntKind.i64 (Int.tmod x.snd.fst (↑(List.length x.fst.snd.snd.snd.fst) :
  Int) + (↑(List.length x.fst.snd.snd.snd.fst) : Int))) (↑(List.length x.fst.snd.snd.snd.fst) : Int))) (0 : Int))).snd.snd.snd.snd.fst.fst = (quitB x.fst (List.getD x.fst.snd.snd.snd.fst (Int.toNat (Int.tmod (IntKind.wrap
  IntKind.i64 (Int.tmod x.snd.fst (↑(List.length x.fst.snd.snd.snd.fst) : Int) + (↑(List.length x.fst.snd.snd.snd.fst) : Int))) (↑(List.length x.fst.snd.snd.snd.fst) : Int))) (0 : Int))).snd.snd.snd.snd.fst.fst) ∧ Wr
  ((quitB x.fst (List.getD x.fst.snd.snd.snd.fst (Int.toNat (Int.tmod (IntKind.wrap IntKind.i64 (Int.tmod x.snd.fst (↑(List.length x.fst.snd.snd.snd.fst) : Int) + (↑(List.length x.fst.snd.snd.snd.fst) : Int)))
  (↑(List.length x.fst.snd.snd.snd.fst) : Int))) (0 : Int))).snd.snd.snd.snd.fst.snd.fst = (quitB x.fst (List.getD x.fst.snd.snd.snd.fst (Int.toNat (Int.tmod (IntKind.wrap IntKind.i64 (Int.tmod x.snd.fst (↑(List.length
  x.fst.snd.snd.snd.fst) : Int) + (↑(List.length x.fst.snd.snd.snd.fst) : Int))) (↑(List.length x.fst.snd.snd.snd.fst) : Int))) (0 : Int))).snd.snd.snd.snd.fst.snd.fst) ∧ Wr ((quitB x.fst (List.getD x.fst.snd.snd.snd.fst
  (Int.toNat (Int.tmod (IntKind.wrap IntKind.i64 (Int.tmod x.snd.fst (↑(List.length x.fst.snd.snd.snd.fst) : Int) + (↑(List.length x.fst.snd.snd.snd.fst) : Int))) (↑(List.length x.fst.snd.snd.snd.fst) : Int))) (0 :
  Int))).snd.snd.snd.snd.fst.snd.snd.fst = (quitB x.fst (List.getD x.fst.snd.snd.snd.fst (Int.toNat (Int.tmod (IntKind.wrap IntKind.i64 (Int.tmod x.snd.fst (↑(List.length x.fst.snd.snd.snd.fst) : Int) + (↑(List.length
  x.fst.snd.snd.snd.fst) : Int))) (↑(List.length x.fst.snd.snd.snd.fst) : Int))) (0 : Int))).snd.snd.snd.snd.fst.snd.snd.fst) ∧ Wr ((quitB x.fst (List.getD x.fst.snd.snd.snd.fst (Int.toNat (Int.tmod (IntKind.wrap
  IntKind.i64 (Int.tmod x.snd.fst (↑(List.length x.fst.snd.snd.snd.fst) : Int) + (↑(List.length x.fst.snd.snd.snd.fst) : Int))) (↑(List.length x.fst.snd.snd.snd.fst) : Int))) (0 : Int))).snd.snd.snd.snd.snd.fst = (quitB
  x.fst (List.getD x.fst.snd.snd.snd.fst (Int.toNat (Int.tmod (IntKind.wrap IntKind.i64 (Int.tmod x.snd.fst (↑(List.length x.fst.snd.snd.snd.fst) : Int) + (↑(List.length x.fst.snd.snd.snd.fst) : Int))) (↑(List.length
  x.fst.snd.snd.snd.fst) : Int))) (0 : Int))).snd.snd.snd.snd.snd.fst) ∧ Wr ((quitB x.fst (List.getD x.fst.snd.snd.snd.fst (Int.toNat (Int.tmod (IntKind.wrap IntKind.i64 (Int.tmod x.snd.fst (↑(List.length
  x.fst.snd.snd.snd.fst) : Int) + (↑(List.length x.fst.snd.snd.snd.fst) : Int))) (↑(List.length x.fst.snd.snd.snd.fst) : Int))) (0 : Int))).snd.snd.snd.snd.snd.snd.fst = (quitB x.fst (List.getD x.fst.snd.snd.snd.fst
  (Int.toNat (Int.tmod (IntKind.wrap IntKind.i64 (Int.tmod x.snd.fst (↑(List.length x.fst.snd.snd.snd.fst) : Int) + (↑(List.length x.fst.snd.snd.snd.fst) : Int))) (↑(List.length x.fst.snd.snd.snd.fst) : Int))) (0 :
  Int))).snd.snd.snd.snd.snd.snd.fst) ∧ Wr ((quitT x.fst (List.getD x.fst.snd.snd.snd.fst (Int.toNat (Int.tmod (IntKind.wrap IntKind.i64 (Int.tmod x.snd.fst (↑(List.length x.fst.snd.snd.snd.fst) : Int) + (↑(List.length
  x.fst.snd.snd.snd.fst) : Int))) (↑(List.length x.fst.snd.snd.snd.fst) : Int))) (0 : Int))).fst = (quitT x.fst (List.getD x.fst.snd.snd.snd.fst (Int.toNat (Int.tmod (IntKind.wrap IntKind.i64 (Int.tmod x.snd.fst
  (↑(List.length x.fst.snd.snd.snd.fst) : Int) + (↑(List.length x.fst.snd.snd.snd.fst) : Int))) (↑(List.length x.fst.snd.snd.snd.fst) : Int))) (0 : Int))).fst) ∧ Wr ((quitT x.fst (List.getD x.fst.snd.snd.snd.fst
  (Int.toNat (Int.tmod (IntKind.wrap IntKind.i64 (Int.tmod x.snd.fst (↑(List.length x.fst.snd.snd.snd.fst) : Int) + (↑(List.length x.fst.snd.snd.snd.fst) : Int))) (↑(List.length x.fst.snd.snd.snd.fst) : Int))) (0 :
  Int))).snd.fst = (quitT x.fst (List.getD x.fst.snd.snd.snd.fst (Int.toNat (Int.tmod (IntKind.wrap IntKind.i64 (Int.tmod x.snd.fst (↑(List.length x.fst.snd.snd.snd.fst) : Int) + (↑(List.length x.fst.snd.snd.snd.fst) :
  Int))) (↑(List.length x.fst.snd.snd.snd.fst) : Int))) (0 : Int))).snd.fst) ∧ Wr ((quitT x.fst (List.getD x.fst.snd.snd.snd.fst (Int.toNat (Int.tmod (IntKind.wrap IntKind.i64 (Int.tmod x.snd.fst (↑(List.length
  x.fst.snd.snd.snd.fst) : Int) + (↑(List.length x.fst.snd.snd.snd.fst) : Int))) (↑(List.length x.fst.snd.snd.snd.fst) : Int))) (0 : Int))).snd.snd.fst = (quitT x.fst (List.getD x.fst.snd.snd.snd.fst (Int.toNat (Int.tmod
  (IntKind.wrap IntKind.i64 (Int.tmod x.snd.fst (↑(List.length x.fst.snd.snd.snd.fst) : Int) + (↑(List.length x.fst.snd.snd.snd.fst) : Int))) (↑(List.length x.fst.snd.snd.snd.fst) : Int))) (0 : Int))).snd.snd.fst) ∧ Wr
  ((quitT x.fst (List.getD x.fst.snd.snd.snd.fst (Int.toNat (Int.tmod (IntKind.wrap IntKind.i64 (Int.tmod x.snd.fst (↑(List.length x.fst.snd.snd.snd.fst) : Int) + (↑(List.length x.fst.snd.snd.snd.fst) : Int)))
  (↑(List.length x.fst.snd.snd.snd.fst) : Int))) (0 : Int))).snd.snd.snd.fst = (quitT x.fst (List.getD x.fst.snd.snd.snd.fst (Int.toNat (Int.tmod (IntKind.wrap IntKind.i64 (Int.tmod x.snd.fst (↑(List.length
  x.fst.snd.snd.snd.fst) : Int) + (↑(List.length x.fst.snd.snd.snd.fst) : Int))) (↑(List.length x.fst.snd.snd.snd.fst) : Int))) (0 : Int))).snd.snd.snd.fst)) ∧ ∀ (x_1 : Int), Wr (QuI (↑(List.length (quitB x.fst (List.getD
  x.fst.snd.snd.snd.fst (Int.toNat (Int.tmod (IntKind.wrap IntKind.i64 (Int.tmod x.snd.fst (↑(List.length x.fst.snd.snd.snd.fst) : Int) + (↑(List.length x.fst.snd.snd.snd.fst) : Int))) (↑(List.length
  x.fst.snd.snd.snd.fst) : Int))) (0 : Int))).snd.snd.snd.fst) : Int) x_1) → bcase (Decidable.decide (x_1 < (↑(List.length (quitB x.fst (List.getD x.fst.snd.snd.snd.fst (Int.toNat (Int.tmod (IntKind.wrap IntKind.i64
  (Int.tmod x.snd.fst (↑(List.length x.fst.snd.snd.snd.fst) : Int) + (↑(List.length x.fst.snd.snd.snd.fst) : Int))) (↑(List.length x.fst.snd.snd.snd.fst) : Int))) (0 : Int))).snd.snd.snd.fst) : Int))) (bcase
  (Decidable.decide (x_1 ≥ Int.tmod (IntKind.wrap IntKind.i64 (Int.tmod x.snd.fst (↑(List.length x.fst.snd.snd.snd.fst) : Int) + (↑(List.length x.fst.snd.snd.snd.fst) : Int))) (↑(List.length x.fst.snd.snd.snd.fst) :
  Int))) (Wr ((0 : Int) ≤ x_1) ∧ Wr (x_1 < (↑(List.length (quitB x.fst (List.getD x.fst.snd.snd.snd.fst (Int.toNat (Int.tmod (IntKind.wrap IntKind.i64 (Int.tmod x.snd.fst (↑(List.length x.fst.snd.snd.snd.fst) : Int) +
  (↑(List.length x.fst.snd.snd.snd.fst) : Int))) (↑(List.length x.fst.snd.snd.snd.fst) : Int))) (0 : Int))).snd.snd.snd.fst) : Int)) ∧ Wr (Bool.true = Bool.true) ∧ Wr ((0 : Int) ≤ IntKind.wrap IntKind.i64 (x_1 + (1 :
  Int))) ∧ Wr (IntKind.wrap IntKind.i64 (x_1 + (1 : Int)) < (↑(List.length x.fst.snd.snd.snd.fst) : Int)) ∧ Wr (Bool.true = Bool.true) ∧ bcase (!Decidable.decide (List.getD (quitB x.fst (List.getD x.fst.snd.snd.snd.fst
  (Int.toNat (Int.tmod (IntKind.wrap IntKind.i64 (Int.tmod x.snd.fst (↑(List.length x.fst.snd.snd.snd.fst) : Int) + (↑(List.length x.fst.snd.snd.snd.fst) : Int))) (↑(List.length x.fst.snd.snd.snd.fst) : Int))) (0 :
  Int))).snd.snd.snd.fst (Int.toNat x_1) (0 : Int) = List.getD x.fst.snd.snd.snd.fst (Int.toNat (IntKind.wrap IntKind.i64 (x_1 + (1 : Int)))) (0 : Int))) ((Bool.false, ()) = (Bool.true, ())) (Wr (QuI (↑(List.length (quitB
  x.fst (List.getD x.fst.snd.snd.snd.fst (Int.toNat (Int.tmod (IntKind.wrap IntKind.i64 (Int.tmod x.snd.fst (↑(List.length x.fst.snd.snd.snd.fst) : Int) + (↑(List.length x.fst.snd.snd.snd.fst) : Int))) (↑(List.length
  x.fst.snd.snd.snd.fst) : Int))) (0 : Int))).snd.snd.snd.fst) : Int) (IntKind.wrap IntKind.i64 (x_1 + (1 : Int)))) ∧ Wr (List.length (quitB x.fst (List.getD x.fst.snd.snd.snd.fst (Int.toNat (Int.tmod (IntKind.wrap
  IntKind.i64 (Int.tmod x.snd.fst (↑(List.length x.fst.snd.snd.snd.fst) : Int) + (↑(List.length x.fst.snd.snd.snd.fst) : Int))) (↑(List.length x.fst.snd.snd.snd.fst) : Int))) (0 : Int))).snd.snd.snd.fst - Int.toNat
  (IntKind.wrap IntKind.i64 (x_1 + (1 : Int))) < List.length (quitB x.fst (List.getD x.fst.snd.snd.snd.fst (Int.toNat (Int.tmod (IntKind.wrap IntKind.i64 (Int.tmod x.snd.fst (↑(List.length x.fst.snd.snd.snd.fst) : Int) +
  (↑(List.length x.fst.snd.snd.snd.fst) : Int))) (↑(List.length x.fst.snd.snd.snd.fst) : Int))) (0 : Int))).snd.snd.snd.fst - Int.toNat x_1) ∧ Wr (IntKind.wrap IntKind.i64 (x_1 + (1 : Int)) = IntKind.wrap IntKind.i64 (x_1
  + (1 : Int))) ∧ Wr (Int.tmod (IntKind.wrap IntKind.i64 (Int.tmod x.snd.fst (↑(List.length x.fst.snd.snd.snd.fst) : Int) + (↑(List.length x.fst.snd.snd.snd.fst) : Int))) (↑(List.length x.fst.snd.snd.snd.fst) : Int) =
  Int.tmod (IntKind.wrap IntKind.i64 (Int.tmod x.snd.fst (↑(List.length x.fst.snd.snd.snd.fst) : Int) + (↑(List.length x.fst.snd.snd.snd.fst) : Int))) (↑(List.length x.fst.snd.snd.snd.fst) : Int)) ∧ Wr (List.getD
  x.fst.snd.snd.snd.fst (Int.toNat (Int.tmod (IntKind.wrap IntKind.i64 (Int.tmod x.snd.fst (↑(List.length x.fst.snd.snd.snd.fst) : Int) + (↑(List.length x.fst.snd.snd.snd.fst) : Int))) (↑(List.length
  x.fst.snd.snd.snd.fst) : Int))) (0 : Int) = List.getD x.fst.snd.snd.snd.fst (Int.toNat (Int.tmod (IntKind.wrap IntKind.i64 (Int.tmod x.snd.fst (↑(List.length x.fst.snd.snd.snd.fst) : Int) + (↑(List.length
  x.fst.snd.snd.snd.fst) : Int))) (↑(List.length x.fst.snd.snd.snd.fst) : Int))) (0 : Int)) ∧ Wr (x.fst.fst.fst = x.fst.fst.fst) ∧ Wr (x.fst.fst.snd.fst = x.fst.fst.snd.fst) ∧ Wr (x.fst.fst.snd.snd.fst =
  x.fst.fst.snd.snd.fst) ∧ Wr (x.fst.fst.snd.snd.snd.fst = x.fst.fst.snd.snd.snd.fst) ∧ Wr (x.fst.fst.snd.snd.snd.snd.fst = x.fst.fst.snd.snd.snd.snd.fst) ∧ Wr (x.fst.fst.snd.snd.snd.snd.snd.fst =
  x.fst.fst.snd.snd.snd.snd.snd.fst) ∧ Wr (x.fst.fst.snd.snd.snd.snd.snd.snd.fst = x.fst.fst.snd.snd.snd.snd.snd.snd.fst) ∧ Wr (x.fst.fst.snd.snd.snd.snd.snd.snd.snd.fst = x.fst.fst.snd.snd.snd.snd.snd.snd.snd.fst) ∧ Wr
  (x.fst.fst.snd.snd.snd.snd.snd.snd.snd.snd.fst = x.fst.fst.snd.snd.snd.snd.snd.snd.snd.snd.fst) ∧ Wr (x.fst.snd.fst = x.fst.snd.fst) ∧ Wr (x.fst.snd.snd.fst = x.fst.snd.snd.fst) ∧ Wr (x.fst.snd.snd.snd.fst =
  x.fst.snd.snd.snd.fst) ∧ Wr (x.fst.snd.snd.snd.snd.fst.fst = x.fst.snd.snd.snd.snd.fst.fst) ∧ Wr (x.fst.snd.snd.snd.snd.fst.snd.fst = x.fst.snd.snd.snd.snd.fst.snd.fst) ∧ Wr (x.fst.snd.snd.snd.snd.fst.snd.snd.fst =
  x.fst.snd.snd.snd.snd.fst.snd.snd.fst) ∧ Wr (x.fst.snd.snd.snd.snd.snd.fst = x.fst.snd.snd.snd.snd.snd.fst) ∧ Wr (x.fst.snd.snd.snd.snd.snd.snd.fst = x.fst.snd.snd.snd.snd.snd.snd.fst) ∧ Wr ((quitB x.fst (List.getD
  x.fst.snd.snd.snd.fst (Int.toNat (Int.tmod (IntKind.wrap IntKind.i64 (Int.tmod x.snd.fst (↑(List.length x.fst.snd.snd.snd.fst) : Int) + (↑(List.length x.fst.snd.snd.snd.fst) : Int))) (↑(List.length
  x.fst.snd.snd.snd.fst) : Int))) (0 : Int))).fst.fst = (quitB x.fst (List.getD x.fst.snd.snd.snd.fst (Int.toNat (Int.tmod (IntKind.wrap IntKind.i64 (Int.tmod x.snd.fst (↑(List.length x.fst.snd.snd.snd.fst) : Int) +
  (↑(List.length x.fst.snd.snd.snd.fst) : Int))) (↑(List.length x.fst.snd.snd.snd.fst) : Int))) (0 : Int))).fst.fst) ∧ Wr ((quitB x.fst (List.getD x.fst.snd.snd.snd.fst (Int.toNat (Int.tmod (IntKind.wrap IntKind.i64
  (Int.tmod x.snd.fst (↑(List.length x.fst.snd.snd.snd.fst) : Int) + (↑(List.length x.fst.snd.snd.snd.fst) : Int))) (↑(List.length x.fst.snd.snd.snd.fst) : Int))) (0 : Int))).fst.snd.fst = (quitB x.fst (List.getD
  x.fst.snd.snd.snd.fst (Int.toNat (Int.tmod (IntKind.wrap IntKind.i64 (Int.tmod x.snd.fst (↑(List.length x.fst.snd.snd.snd.fst) : Int) + (↑(List.length x.fst.snd.snd.snd.fst) : Int))) (↑(List.length
  x.fst.snd.snd.snd.fst) : Int))) (0 : Int))).fst.snd.fst) ∧ Wr ((quitB x.fst (List.getD x.fst.snd.snd.snd.fst (Int.toNat (Int.tmod (IntKind.wrap IntKind.i64 (Int.tmod x.snd.fst (↑(List.length x.fst.snd.snd.snd.fst) :
  Int) + (↑(List.length x.fst.snd.snd.snd.fst) : Int))) (↑(List.length x.fst.snd.snd.snd.fst) : Int))) (0 : Int))).fst.snd.snd.fst = (quitB x.fst (List.getD x.fst.snd.snd.snd.fst (Int.toNat (Int.tmod (IntKind.wrap
  IntKind.i64 (Int.tmod x.snd.fst (↑(List.length x.fst.snd.snd.snd.fst) : Int) + (↑(List.length x.fst.snd.snd.snd.fst) : Int))) (↑(List.length x.fst.snd.snd.snd.fst) : Int))) (0 : Int))).fst.snd.snd.fst) ∧ Wr ((quitB
  x.fst (List.getD x.fst.snd.snd.snd.fst (Int.toNat (Int.tmod (IntKind.wrap IntKind.i64 (Int.tmod x.snd.fst (↑(List.length x.fst.snd.snd.snd.fst) : Int) + (↑(List.length x.fst.snd.snd.snd.fst) : Int))) (↑(List.length
  x.fst.snd.snd.snd.fst) : Int))) (0 : Int))).fst.snd.snd.snd.fst = (quitB x.fst (List.getD x.fst.snd.snd.snd.fst (Int.toNat (Int.tmod (IntKind.wrap IntKind.i64 (Int.tmod x.snd.fst (↑(List.length x.fst.snd.snd.snd.fst) :
  Int) + (↑(List.length x.fst.snd.snd.snd.fst) : Int))) (↑(List.length x.fst.snd.snd.snd.fst) : Int))) (0 : Int))).fst.snd.snd.snd.fst) ∧ Wr ((quitB x.fst (List.getD x.fst.snd.snd.snd.fst (Int.toNat (Int.tmod
  (IntKind.wrap IntKind.i64 (Int.tmod x.snd.fst (↑(List.length x.fst.snd.snd.snd.fst) : Int) + (↑(List.length x.fst.snd.snd.snd.fst) : Int))) (↑(List.length x.fst.snd.snd.snd.fst) : Int))) (0 :
  Int))).fst.snd.snd.snd.snd.fst = (quitB x.fst (List.getD x.fst.snd.snd.snd.fst (Int.toNat (Int.tmod (IntKind.wrap IntKind.i64 (Int.tmod x.snd.fst (↑(List.length x.fst.snd.snd.snd.fst) : Int) + (↑(List.length
  x.fst.snd.snd.snd.fst) : Int))) (↑(List.length x.fst.snd.snd.snd.fst) : Int))) (0 : Int))).fst.snd.snd.snd.snd.fst) ∧ Wr ((quitB x.fst (List.getD x.fst.snd.snd.snd.fst (Int.toNat (Int.tmod (IntKind.wrap IntKind.i64
  (Int.tmod x.snd.fst (↑(List.length x.fst.snd.snd.snd.fst) : Int) + (↑(List.length x.fst.snd.snd.snd.fst) : Int))) (↑(List.length x.fst.snd.snd.snd.fst) : Int))) (0 : Int))).fst.snd.snd.snd.snd.snd.fst = (quitB x.fst
  (List.getD x.fst.snd.snd.snd.fst (Int.toNat (Int.tmod (IntKind.wrap IntKind.i64 (Int.tmod x.snd.fst (↑(List.length x.fst.snd.snd.snd.fst) : Int) + (↑(List.length x.fst.snd.snd.snd.fst) : Int))) (↑(List.length
  x.fst.snd.snd.snd.fst) : Int))) (0 : Int))).fst.snd.snd.snd.snd.snd.fst) ∧ Wr ((quitB x.fst (List.getD x.fst.snd.snd.snd.fst (Int.toNat (Int.tmod (IntKind.wrap IntKind.i64 (Int.tmod x.snd.fst (↑(List.length
  x.fst.snd.snd.snd.fst) : Int) + (↑(List.length x.fst.snd.snd.snd.fst) : Int))) (↑(List.length x.fst.snd.snd.snd.fst) : Int))) (0 : Int))).fst.snd.snd.snd.snd.snd.snd.fst = (quitB x.fst (List.getD x.fst.snd.snd.snd.fst
  (Int.toNat (Int.tmod (IntKind.wrap IntKind.i64 (Int.tmod x.snd.fst (↑(List.length x.fst.snd.snd.snd.fst) : Int) + (↑(List.length x.fst.snd.snd.snd.fst) : Int))) (↑(List.length x.fst.snd.snd.snd.fst) : Int))) (0 :
  Int))).fst.snd.snd.snd.snd.snd.snd.fst) ∧ Wr ((quitB x.fst (List.getD x.fst.snd.snd.snd.fst (Int.toNat (Int.tmod (IntKind.wrap IntKind.i64 (Int.tmod x.snd.fst (↑(List.length x.fst.snd.snd.snd.fst) : Int) +
  (↑(List.length x.fst.snd.snd.snd.fst) : Int))) (↑(List.length x.fst.snd.snd.snd.fst) : Int))) (0 : Int))).fst.snd.snd.snd.snd.snd.snd.snd.fst = (quitB x.fst (List.getD x.fst.snd.snd.snd.fst (Int.toNat (Int.tmod
  (IntKind.wrap IntKind.i64 (Int.tmod x.snd.fst (↑(List.length x.fst.snd.snd.snd.fst) : Int) + (↑(List.length x.fst.snd.snd.snd.fst) : Int))) (↑(List.length x.fst.snd.snd.snd.fst) : Int))) (0 :
  Int))).fst.snd.snd.snd.snd.snd.snd.snd.fst) ∧ Wr ((quitB x.fst (List.getD x.fst.snd.snd.snd.fst (Int.toNat (Int.tmod (IntKind.wrap IntKind.i64 (Int.tmod x.snd.fst (↑(List.length x.fst.snd.snd.snd.fst) : Int) +
  (↑(List.length x.fst.snd.snd.snd.fst) : Int))) (↑(List.length x.fst.snd.snd.snd.fst) : Int))) (0 : Int))).fst.snd.snd.snd.snd.snd.snd.snd.snd.fst = (quitB x.fst (List.getD x.fst.snd.snd.snd.fst (Int.toNat (Int.tmod
  (IntKind.wrap IntKind.i64 (Int.tmod x.snd.fst (↑(List.length x.fst.snd.snd.snd.fst) : Int) + (↑(List.length x.fst.snd.snd.snd.fst) : Int))) (↑(List.length x.fst.snd.snd.snd.fst) : Int))) (0 :
  Int))).fst.snd.snd.snd.snd.snd.snd.snd.snd.fst) ∧ Wr ((quitB x.fst (List.getD x.fst.snd.snd.snd.fst (Int.toNat (Int.tmod (IntKind.wrap IntKind.i64 (Int.tmod x.snd.fst (↑(List.length x.fst.snd.snd.snd.fst) : Int) +
  (↑(List.length x.fst.snd.snd.snd.fst) : Int))) (↑(List.length x.fst.snd.snd.snd.fst) : Int))) (0 : Int))).snd.fst = (quitB x.fst (List.getD x.fst.snd.snd.snd.fst (Int.toNat (Int.tmod (IntKind.wrap IntKind.i64 (Int.tmod
  x.snd.fst (↑(List.length x.fst.snd.snd.snd.fst) : Int) + (↑(List.length x.fst.snd.snd.snd.fst) : Int))) (↑(List.length x.fst.snd.snd.snd.fst) : Int))) (0 : Int))).snd.fst) ∧ Wr ((quitB x.fst (List.getD
  x.fst.snd.snd.snd.fst (Int.toNat (Int.tmod (IntKind.wrap IntKind.i64 (Int.tmod x.snd.fst (↑(List.length x.fst.snd.snd.snd.fst) : Int) + (↑(List.length x.fst.snd.snd.snd.fst) : Int))) (↑(List.length
  x.fst.snd.snd.snd.fst) : Int))) (0 : Int))).snd.snd.fst = (quitB x.fst (List.getD x.fst.snd.snd.snd.fst (Int.toNat (Int.tmod (IntKind.wrap IntKind.i64 (Int.tmod x.snd.fst (↑(List.length x.fst.snd.snd.snd.fst) : Int) +
  (↑(List.length x.fst.snd.snd.snd.fst) : Int))) (↑(List.length x.fst.snd.snd.snd.fst) : Int))) (0 : Int))).snd.snd.fst) ∧ Wr ((quitB x.fst (List.getD x.fst.snd.snd.snd.fst (Int.toNat (Int.tmod (IntKind.wrap IntKind.i64
  (Int.tmod x.snd.fst (↑(List.length x.fst.snd.snd.snd.fst) : Int) + (↑(List.length x.fst.snd.snd.snd.fst) : Int))) (↑(List.length x.fst.snd.snd.snd.fst) : Int))) (0 : Int))).snd.snd.snd.fst = (quitB x.fst (List.getD
  x.fst.snd.snd.snd.fst (Int.toNat (Int.tmod (IntKind.wrap IntKind.i64 (Int.tmod x.snd.fst (↑(List.length x.fst.snd.snd.snd.fst) : Int) + (↑(List.length x.fst.snd.snd.snd.fst) : Int))) (↑(List.length
  x.fst.snd.snd.snd.fst) : Int))) (0 : Int))).snd.snd.snd.fst) ∧ Wr ((quitB x.fst (List.getD x.fst.snd.snd.snd.fst (Int.toNat (Int.tmod (IntKind.wrap IntKind.i64 (Int.tmod x.snd.fst (↑(List.length x.fst.snd.snd.snd.fst) :
  Int) + (↑(List.length x.fst.snd.snd.snd.fst) : Int))) (↑(List.length x.fst.snd.snd.snd.fst) : Int))) (0 : Int))).snd.snd.snd.snd.fst.fst = (quitB x.fst (List.getD x.fst.snd.snd.snd.fst (Int.toNat (Int.tmod (IntKind.wrap
  IntKind.i64 (Int.tmod x.snd.fst (↑(List.length x.fst.snd.snd.snd.fst) : Int) + (↑(List.length x.fst.snd.snd.snd.fst) : Int))) (↑(List.length x.fst.snd.snd.snd.fst) : Int))) (0 : Int))).snd.snd.snd.snd.fst.fst) ∧ Wr
  ((quitB x.fst (List.getD x.fst.snd.snd.snd.fst (Int.toNat (Int.tmod (IntKind.wrap IntKind.i64 (Int.tmod x.snd.fst (↑(List.length x.fst.snd.snd.snd.fst) : Int) + (↑(List.length x.fst.snd.snd.snd.fst) : Int)))
  (↑(List.length x.fst.snd.snd.snd.fst) : Int))) (0 : Int))).snd.snd.snd.snd.fst.snd.fst = (quitB x.fst (List.getD x.fst.snd.snd.snd.fst (Int.toNat (Int.tmod (IntKind.wrap IntKind.i64 (Int.tmod x.snd.fst (↑(List.length
  x.fst.snd.snd.snd.fst) : Int) + (↑(List.length x.fst.snd.snd.snd.fst) : Int))) (↑(List.length x.fst.snd.snd.snd.fst) : Int))) (0 : Int))).snd.snd.snd.snd.fst.snd.fst) ∧ Wr ((quitB x.fst (List.getD x.fst.snd.snd.snd.fst
  (Int.toNat (Int.tmod (IntKind.wrap IntKind.i64 (Int.tmod x.snd.fst (↑(List.length x.fst.snd.snd.snd.fst) : Int) + (↑(List.length x.fst.snd.snd.snd.fst) : Int))) (↑(List.length x.fst.snd.snd.snd.fst) : Int))) (0 :
  Int))).snd.snd.snd.snd.fst.snd.snd.fst = (quitB x.fst (List.getD x.fst.snd.snd.snd.fst (Int.toNat (Int.tmod (IntKind.wrap IntKind.i64 (Int.tmod x.snd.fst (↑(List.length x.fst.snd.snd.snd.fst) : Int) + (↑(List.length
  x.fst.snd.snd.snd.fst) : Int))) (↑(List.length x.fst.snd.snd.snd.fst) : Int))) (0 : Int))).snd.snd.snd.snd.fst.snd.snd.fst) ∧ Wr ((quitB x.fst (List.getD x.fst.snd.snd.snd.fst (Int.toNat (Int.tmod (IntKind.wrap
  IntKind.i64 (Int.tmod x.snd.fst (↑(List.length x.fst.snd.snd.snd.fst) : Int) + (↑(List.length x.fst.snd.snd.snd.fst) : Int))) (↑(List.length x.fst.snd.snd.snd.fst) : Int))) (0 : Int))).snd.snd.snd.snd.snd.fst = (quitB
  x.fst (List.getD x.fst.snd.snd.snd.fst (Int.toNat (Int.tmod (IntKind.wrap IntKind.i64 (Int.tmod x.snd.fst (↑(List.length x.fst.snd.snd.snd.fst) : Int) + (↑(List.length x.fst.snd.snd.snd.fst) : Int))) (↑(List.length
  x.fst.snd.snd.snd.fst) : Int))) (0 : Int))).snd.snd.snd.snd.snd.fst) ∧ Wr ((quitB x.fst (List.getD x.fst.snd.snd.snd.fst (Int.toNat (Int.tmod (IntKind.wrap IntKind.i64 (Int.tmod x.snd.fst (↑(List.length
  x.fst.snd.snd.snd.fst) : Int) + (↑(List.length x.fst.snd.snd.snd.fst) : Int))) (↑(List.length x.fst.snd.snd.snd.fst) : Int))) (0 : Int))).snd.snd.snd.snd.snd.snd.fst = (quitB x.fst (List.getD x.fst.snd.snd.snd.fst
  (Int.toNat (Int.tmod (IntKind.wrap IntKind.i64 (Int.tmod x.snd.fst (↑(List.length x.fst.snd.snd.snd.fst) : Int) + (↑(List.length x.fst.snd.snd.snd.fst) : Int))) (↑(List.length x.fst.snd.snd.snd.fst) : Int))) (0 :
  Int))).snd.snd.snd.snd.snd.snd.fst) ∧ Wr ((quitT x.fst (List.getD x.fst.snd.snd.snd.fst (Int.toNat (Int.tmod (IntKind.wrap IntKind.i64 (Int.tmod x.snd.fst (↑(List.length x.fst.snd.snd.snd.fst) : Int) + (↑(List.length
  x.fst.snd.snd.snd.fst) : Int))) (↑(List.length x.fst.snd.snd.snd.fst) : Int))) (0 : Int))).fst = (quitT x.fst (List.getD x.fst.snd.snd.snd.fst (Int.toNat (Int.tmod (IntKind.wrap IntKind.i64 (Int.tmod x.snd.fst
  (↑(List.length x.fst.snd.snd.snd.fst) : Int) + (↑(List.length x.fst.snd.snd.snd.fst) : Int))) (↑(List.length x.fst.snd.snd.snd.fst) : Int))) (0 : Int))).fst) ∧ Wr ((quitT x.fst (List.getD x.fst.snd.snd.snd.fst
  (Int.toNat (Int.tmod (IntKind.wrap IntKind.i64 (Int.tmod x.snd.fst (↑(List.length x.fst.snd.snd.snd.fst) : Int) + (↑(List.length x.fst.snd.snd.snd.fst) : Int))) (↑(List.length x.fst.snd.snd.snd.fst) : Int))) (0 :
  Int))).snd.fst = (quitT x.fst (List.getD x.fst.snd.snd.snd.fst (Int.toNat (Int.tmod (IntKind.wrap IntKind.i64 (Int.tmod x.snd.fst (↑(List.length x.fst.snd.snd.snd.fst) : Int) + (↑(List.length x.fst.snd.snd.snd.fst) :
  Int))) (↑(List.length x.fst.snd.snd.snd.fst) : Int))) (0 : Int))).snd.fst) ∧ Wr ((quitT x.fst (List.getD x.fst.snd.snd.snd.fst (Int.toNat (Int.tmod (IntKind.wrap IntKind.i64 (Int.tmod x.snd.fst (↑(List.length
  x.fst.snd.snd.snd.fst) : Int) + (↑(List.length x.fst.snd.snd.snd.fst) : Int))) (↑(List.length x.fst.snd.snd.snd.fst) : Int))) (0 : Int))).snd.snd.fst = (quitT x.fst (List.getD x.fst.snd.snd.snd.fst (Int.toNat (Int.tmod
  (IntKind.wrap IntKind.i64 (Int.tmod x.snd.fst (↑(List.length x.fst.snd.snd.snd.fst) : Int) + (↑(List.length x.fst.snd.snd.snd.fst) : Int))) (↑(List.length x.fst.snd.snd.snd.fst) : Int))) (0 : Int))).snd.snd.fst) ∧ Wr
  ((quitT x.fst (List.getD x.fst.snd.snd.snd.fst (Int.toNat (Int.tmod (IntKind.wrap IntKind.i64 (Int.tmod x.snd.fst (↑(List.length x.fst.snd.snd.snd.fst) : Int) + (↑(List.length x.fst.snd.snd.snd.fst) : Int)))
  (↑(List.length x.fst.snd.snd.snd.fst) : Int))) (0 : Int))).snd.snd.snd.fst = (quitT x.fst (List.getD x.fst.snd.snd.snd.fst (Int.toNat (Int.tmod (IntKind.wrap IntKind.i64 (Int.tmod x.snd.fst (↑(List.length
  x.fst.snd.snd.snd.fst) : Int) + (↑(List.length x.fst.snd.snd.snd.fst) : Int))) (↑(List.length x.fst.snd.snd.snd.fst) : Int))) (0 : Int))).snd.snd.snd.fst))) (Wr ((0 : Int) ≤ x_1) ∧ Wr (x_1 < (↑(List.length (quitB x.fst
  (List.getD x.fst.snd.snd.snd.fst (Int.toNat (Int.tmod (IntKind.wrap IntKind.i64 (Int.tmod x.snd.fst (↑(List.length x.fst.snd.snd.snd.fst) : Int) + (↑(List.length x.fst.snd.snd.snd.fst) : Int))) (↑(List.length
  x.fst.snd.snd.snd.fst) : Int))) (0 : Int))).snd.snd.snd.fst) : Int)) ∧ Wr (Bool.true = Bool.true) ∧ Wr ((0 : Int) ≤ x_1) ∧ Wr (x_1 < (↑(List.length x.fst.snd.snd.snd.fst) : Int)) ∧ Wr (Bool.true = Bool.true) ∧ bcase
  (!Decidable.decide (List.getD (quitB x.fst (List.getD x.fst.snd.snd.snd.fst (Int.toNat (Int.tmod (IntKind.wrap IntKind.i64 (Int.tmod x.snd.fst (↑(List.length x.fst.snd.snd.snd.fst) : Int) + (↑(List.length
  x.fst.snd.snd.snd.fst) : Int))) (↑(List.length x.fst.snd.snd.snd.fst) : Int))) (0 : Int))).snd.snd.snd.fst (Int.toNat x_1) (0 : Int) = List.getD x.fst.snd.snd.snd.fst (Int.toNat x_1) (0 : Int))) ((Bool.false, ()) =
  (Bool.true, ())) (Wr (QuI (↑(List.length (quitB x.fst (List.getD x.fst.snd.snd.snd.fst (Int.toNat (Int.tmod (IntKind.wrap IntKind.i64 (Int.tmod x.snd.fst (↑(List.length x.fst.snd.snd.snd.fst) : Int) + (↑(List.length
  x.fst.snd.snd.snd.fst) : Int))) (↑(List.length x.fst.snd.snd.snd.fst) : Int))) (0 : Int))).snd.snd.snd.fst) : Int) (IntKind.wrap IntKind.i64 (x_1 + (1 : Int)))) ∧ Wr (List.length (quitB x.fst (List.getD
  x.fst.snd.snd.snd.fst (Int.toNat (Int.tmod (IntKind.wrap IntKind.i64 (Int.tmod x.snd.fst (↑(List.length x.fst.snd.snd.snd.fst) : Int) + (↑(List.length x.fst.snd.snd.snd.fst) : Int))) (↑(List.length
  x.fst.snd.snd.snd.fst) : Int))) (0 : Int))).snd.snd.snd.fst - Int.toNat (IntKind.wrap IntKind.i64 (x_1 + (1 : Int))) < List.length (quitB x.fst (List.getD x.fst.snd.snd.snd.fst (Int.toNat (Int.tmod (IntKind.wrap
  IntKind.i64 (Int.tmod x.snd.fst (↑(List.length x.fst.snd.snd.snd.fst) : Int) + (↑(List.length x.fst.snd.snd.snd.fst) : Int))) (↑(List.length x.fst.snd.snd.snd.fst) : Int))) (0 : Int))).snd.snd.snd.fst - Int.toNat x_1) ∧
  Wr (IntKind.wrap IntKind.i64 (x_1 + (1 : Int)) = IntKind.wrap IntKind.i64 (x_1 + (1 : Int))) ∧ Wr (Int.tmod (IntKind.wrap IntKind.i64 (Int.tmod x.snd.fst (↑(List.length x.fst.snd.snd.snd.fst) : Int) + (↑(List.length
  x.fst.snd.snd.snd.fst) : Int))) (↑(List.length x.fst.snd.snd.snd.fst) : Int) = Int.tmod (IntKind.wrap IntKind.i64 (Int.tmod x.snd.fst (↑(List.length x.fst.snd.snd.snd.fst) : Int) + (↑(List.length x.fst.snd.snd.snd.fst)
  : Int))) (↑(List.length x.fst.snd.snd.snd.fst) : Int)) ∧ Wr (List.getD x.fst.snd.snd.snd.fst (Int.toNat (Int.tmod (IntKind.wrap IntKind.i64 (Int.tmod x.snd.fst (↑(List.length x.fst.snd.snd.snd.fst) : Int) +
  (↑(List.length x.fst.snd.snd.snd.fst) : Int))) (↑(List.length x.fst.snd.snd.snd.fst) : Int))) (0 : Int) = List.getD x.fst.snd.snd.snd.fst (Int.toNat (Int.tmod (IntKind.wrap IntKind.i64 (Int.tmod x.snd.fst (↑(List.length
  x.fst.snd.snd.snd.fst) : Int) + (↑(List.length x.fst.snd.snd.snd.fst) : Int))) (↑(List.length x.fst.snd.snd.snd.fst) : Int))) (0 : Int)) ∧ Wr (x.fst.fst.fst = x.fst.fst.fst) ∧ Wr (x.fst.fst.snd.fst = x.fst.fst.snd.fst)
  ∧ Wr (x.fst.fst.snd.snd.fst = x.fst.fst.snd.snd.fst) ∧ Wr (x.fst.fst.snd.snd.snd.fst = x.fst.fst.snd.snd.snd.fst) ∧ Wr (x.fst.fst.snd.snd.snd.snd.fst = x.fst.fst.snd.snd.snd.snd.fst) ∧ Wr
  (x.fst.fst.snd.snd.snd.snd.snd.fst = x.fst.fst.snd.snd.snd.snd.snd.fst) ∧ Wr (x.fst.fst.snd.snd.snd.snd.snd.snd.fst = x.fst.fst.snd.snd.snd.snd.snd.snd.fst) ∧ Wr (x.fst.fst.snd.snd.snd.snd.snd.snd.snd.fst =
  x.fst.fst.snd.snd.snd.snd.snd.snd.snd.fst) ∧ Wr (x.fst.fst.snd.snd.snd.snd.snd.snd.snd.snd.fst = x.fst.fst.snd.snd.snd.snd.snd.snd.snd.snd.fst) ∧ Wr (x.fst.snd.fst = x.fst.snd.fst) ∧ Wr (x.fst.snd.snd.fst =
  x.fst.snd.snd.fst) ∧ Wr (x.fst.snd.snd.snd.fst = x.fst.snd.snd.snd.fst) ∧ Wr (x.fst.snd.snd.snd.snd.fst.fst = x.fst.snd.snd.snd.snd.fst.fst) ∧ Wr (x.fst.snd.snd.snd.snd.fst.snd.fst = x.fst.snd.snd.snd.snd.fst.snd.fst) ∧
  Wr (x.fst.snd.snd.snd.snd.fst.snd.snd.fst = x.fst.snd.snd.snd.snd.fst.snd.snd.fst) ∧ Wr (x.fst.snd.snd.snd.snd.snd.fst = x.fst.snd.snd.snd.snd.snd.fst) ∧ Wr (x.fst.snd.snd.snd.snd.snd.snd.fst =
  x.fst.snd.snd.snd.snd.snd.snd.fst) ∧ Wr ((quitB x.fst (List.getD x.fst.snd.snd.snd.fst (Int.toNat (Int.tmod (IntKind.wrap IntKind.i64 (Int.tmod x.snd.fst (↑(List.length x.fst.snd.snd.snd.fst) : Int) + (↑(List.length
  x.fst.snd.snd.snd.fst) : Int))) (↑(List.length x.fst.snd.snd.snd.fst) : Int))) (0 : Int))).fst.fst = (quitB x.fst (List.getD x.fst.snd.snd.snd.fst (Int.toNat (Int.tmod (IntKind.wrap IntKind.i64 (Int.tmod x.snd.fst
  (↑(List.length x.fst.snd.snd.snd.fst) : Int) + (↑(List.length x.fst.snd.snd.snd.fst) : Int))) (↑(List.length x.fst.snd.snd.snd.fst) : Int))) (0 : Int))).fst.fst) ∧ Wr ((quitB x.fst (List.getD x.fst.snd.snd.snd.fst
  (Int.toNat (Int.tmod (IntKind.wrap IntKind.i64 (Int.tmod x.snd.fst (↑(List.length x.fst.snd.snd.snd.fst) : Int) + (↑(List.length x.fst.snd.snd.snd.fst) : Int))) (↑(List.length x.fst.snd.snd.snd.fst) : Int))) (0 :
  Int))).fst.snd.fst = (quitB x.fst (List.getD x.fst.snd.snd.snd.fst (Int.toNat (Int.tmod (IntKind.wrap IntKind.i64 (Int.tmod x.snd.fst (↑(List.length x.fst.snd.snd.snd.fst) : Int) + (↑(List.length x.fst.snd.snd.snd.fst)
  : Int))) (↑(List.length x.fst.snd.snd.snd.fst) : Int))) (0 : Int))).fst.snd.fst) ∧ Wr ((quitB x.fst (List.getD x.fst.snd.snd.snd.fst (Int.toNat (Int.tmod (IntKind.wrap IntKind.i64 (Int.tmod x.snd.fst (↑(List.length
  x.fst.snd.snd.snd.fst) : Int) + (↑(List.length x.fst.snd.snd.snd.fst) : Int))) (↑(List.length x.fst.snd.snd.snd.fst) : Int))) (0 : Int))).fst.snd.snd.fst = (quitB x.fst (List.getD x.fst.snd.snd.snd.fst (Int.toNat
  (Int.tmod (IntKind.wrap IntKind.i64 (Int.tmod x.snd.fst (↑(List.length x.fst.snd.snd.snd.fst) : Int) + (↑(List.length x.fst.snd.snd.snd.fst) : Int))) (↑(List.length x.fst.snd.snd.snd.fst) : Int))) (0 :
  Int))).fst.snd.snd.fst) ∧ Wr ((quitB x.fst (List.getD x.fst.snd.snd.snd.fst (Int.toNat (Int.tmod (IntKind.wrap IntKind.i64 (Int.tmod x.snd.fst (↑(List.length x.fst.snd.snd.snd.fst) : Int) + (↑(List.length
  x.fst.snd.snd.snd.fst) : Int))) (↑(List.length x.fst.snd.snd.snd.fst) : Int))) (0 : Int))).fst.snd.snd.snd.fst = (quitB x.fst (List.getD x.fst.snd.snd.snd.fst (Int.toNat (Int.tmod (IntKind.wrap IntKind.i64 (Int.tmod
  x.snd.fst (↑(List.length x.fst.snd.snd.snd.fst) : Int) + (↑(List.length x.fst.snd.snd.snd.fst) : Int))) (↑(List.length x.fst.snd.snd.snd.fst) : Int))) (0 : Int))).fst.snd.snd.snd.fst) ∧ Wr ((quitB x.fst (List.getD
  x.fst.snd.snd.snd.fst (Int.toNat (Int.tmod (IntKind.wrap IntKind.i64 (Int.tmod x.snd.fst (↑(List.length x.fst.snd.snd.snd.fst) : Int) + (↑(List.length x.fst.snd.snd.snd.fst) : Int))) (↑(List.length
  x.fst.snd.snd.snd.fst) : Int))) (0 : Int))).fst.snd.snd.snd.snd.fst = (quitB x.fst (List.getD x.fst.snd.snd.snd.fst (Int.toNat (Int.tmod (IntKind.wrap IntKind.i64 (Int.tmod x.snd.fst (↑(List.length
  x.fst.snd.snd.snd.fst) : Int) + (↑(List.length x.fst.snd.snd.snd.fst) : Int))) (↑(List.length x.fst.snd.snd.snd.fst) : Int))) (0 : Int))).fst.snd.snd.snd.snd.fst) ∧ Wr ((quitB x.fst (List.getD x.fst.snd.snd.snd.fst
  (Int.toNat (Int.tmod (IntKind.wrap IntKind.i64 (Int.tmod x.snd.fst (↑(List.length x.fst.snd.snd.snd.fst) : Int) + (↑(List.length x.fst.snd.snd.snd.fst) : Int))) (↑(List.length x.fst.snd.snd.snd.fst) : Int))) (0 :
  Int))).fst.snd.snd.snd.snd.snd.fst = (quitB x.fst (List.getD x.fst.snd.snd.snd.fst (Int.toNat (Int.tmod (IntKind.wrap IntKind.i64 (Int.tmod x.snd.fst (↑(List.length x.fst.snd.snd.snd.fst) : Int) + (↑(List.length
  x.fst.snd.snd.snd.fst) : Int))) (↑(List.length x.fst.snd.snd.snd.fst) : Int))) (0 : Int))).fst.snd.snd.snd.snd.snd.fst) ∧ Wr ((quitB x.fst (List.getD x.fst.snd.snd.snd.fst (Int.toNat (Int.tmod (IntKind.wrap IntKind.i64
  (Int.tmod x.snd.fst (↑(List.length x.fst.snd.snd.snd.fst) : Int) + (↑(List.length x.fst.snd.snd.snd.fst) : Int))) (↑(List.length x.fst.snd.snd.snd.fst) : Int))) (0 : Int))).fst.snd.snd.snd.snd.snd.snd.fst = (quitB x.fst
  (List.getD x.fst.snd.snd.snd.fst (Int.toNat (Int.tmod (IntKind.wrap IntKind.i64 (Int.tmod x.snd.fst (↑(List.length x.fst.snd.snd.snd.fst) : Int) + (↑(List.length x.fst.snd.snd.snd.fst) : Int))) (↑(List.length
  x.fst.snd.snd.snd.fst) : Int))) (0 : Int))).fst.snd.snd.snd.snd.snd.snd.fst) ∧ Wr ((quitB x.fst (List.getD x.fst.snd.snd.snd.fst (Int.toNat (Int.tmod (IntKind.wrap IntKind.i64 (Int.tmod x.snd.fst (↑(List.length
  x.fst.snd.snd.snd.fst) : Int) + (↑(List.length x.fst.snd.snd.snd.fst) : Int))) (↑(List.length x.fst.snd.snd.snd.fst) : Int))) (0 : Int))).fst.snd.snd.snd.snd.snd.snd.snd.fst = (quitB x.fst (List.getD
  x.fst.snd.snd.snd.fst (Int.toNat (Int.tmod (IntKind.wrap IntKind.i64 (Int.tmod x.snd.fst (↑(List.length x.fst.snd.snd.snd.fst) : Int) + (↑(List.length x.fst.snd.snd.snd.fst) : Int))) (↑(List.length
  x.fst.snd.snd.snd.fst) : Int))) (0 : Int))).fst.snd.snd.snd.snd.snd.snd.snd.fst) ∧ Wr ((quitB x.fst (List.getD x.fst.snd.snd.snd.fst (Int.toNat (Int.tmod (IntKind.wrap IntKind.i64 (Int.tmod x.snd.fst (↑(List.length
  x.fst.snd.snd.snd.fst) : Int) + (↑(List.length x.fst.snd.snd.snd.fst) : Int))) (↑(List.length x.fst.snd.snd.snd.fst) : Int))) (0 : Int))).fst.snd.snd.snd.snd.snd.snd.snd.snd.fst = (quitB x.fst (List.getD
  x.fst.snd.snd.snd.fst (Int.toNat (Int.tmod (IntKind.wrap IntKind.i64 (Int.tmod x.snd.fst (↑(List.length x.fst.snd.snd.snd.fst) : Int) + (↑(List.length x.fst.snd.snd.snd.fst) : Int))) (↑(List.length
  x.fst.snd.snd.snd.fst) : Int))) (0 : Int))).fst.snd.snd.snd.snd.snd.snd.snd.snd.fst) ∧ Wr ((quitB x.fst (List.getD x.fst.snd.snd.snd.fst (Int.toNat (Int.tmod (IntKind.wrap IntKind.i64 (Int.tmod x.snd.fst (↑(List.length
  x.fst.snd.snd.snd.fst) : Int) + (↑(List.length x.fst.snd.snd.snd.fst) : Int))) (↑(List.length x.fst.snd.snd.snd.fst) : Int))) (0 : Int))).snd.fst = (quitB x.fst (List.getD x.fst.snd.snd.snd.fst (Int.toNat (Int.tmod
  (IntKind.wrap IntKind.i64 (Int.tmod x.snd.fst (↑(List.length x.fst.snd.snd.snd.fst) : Int) + (↑(List.length x.fst.snd.snd.snd.fst) : Int))) (↑(List.length x.fst.snd.snd.snd.fst) : Int))) (0 : Int))).snd.fst) ∧ Wr
  ((quitB x.fst (List.getD x.fst.snd.snd.snd.fst (Int.toNat (Int.tmod (IntKind.wrap IntKind.i64 (Int.tmod x.snd.fst (↑(List.length x.fst.snd.snd.snd.fst) : Int) + (↑(List.length x.fst.snd.snd.snd.fst) : Int)))
  (↑(List.length x.fst.snd.snd.snd.fst) : Int))) (0 : Int))).snd.snd.fst = (quitB x.fst (List.getD x.fst.snd.snd.snd.fst (Int.toNat (Int.tmod (IntKind.wrap IntKind.i64 (Int.tmod x.snd.fst (↑(List.length
  x.fst.snd.snd.snd.fst) : Int) + (↑(List.length x.fst.snd.snd.snd.fst) : Int))) (↑(List.length x.fst.snd.snd.snd.fst) : Int))) (0 : Int))).snd.snd.fst) ∧ Wr ((quitB x.fst (List.getD x.fst.snd.snd.snd.fst (Int.toNat
  (Int.tmod (IntKind.wrap IntKind.i64 (Int.tmod x.snd.fst (↑(List.length x.fst.snd.snd.snd.fst) : Int) + (↑(List.length x.fst.snd.snd.snd.fst) : Int))) (↑(List.length x.fst.snd.snd.snd.fst) : Int))) (0 :
  Int))).snd.snd.snd.fst = (quitB x.fst (List.getD x.fst.snd.snd.snd.fst (Int.toNat (Int.tmod (IntKind.wrap IntKind.i64 (Int.tmod x.snd.fst (↑(List.length x.fst.snd.snd.snd.fst) : Int) + (↑(List.length
  x.fst.snd.snd.snd.fst) : Int))) (↑(List.length x.fst.snd.snd.snd.fst) : Int))) (0 : Int))).snd.snd.snd.fst) ∧ Wr ((quitB x.fst (List.getD x.fst.snd.snd.snd.fst (Int.toNat (Int.tmod (IntKind.wrap IntKind.i64 (Int.tmod
  x.snd.fst (↑(List.length x.fst.snd.snd.snd.fst) : Int) + (↑(List.length x.fst.snd.snd.snd.fst) : Int))) (↑(List.length x.fst.snd.snd.snd.fst) : Int))) (0 : Int))).snd.snd.snd.snd.fst.fst = (quitB x.fst (List.getD
  x.fst.snd.snd.snd.fst (Int.toNat (Int.tmod (IntKind.wrap IntKind.i64 (Int.tmod x.snd.fst (↑(List.length x.fst.snd.snd.snd.fst) : Int) + (↑(List.length x.fst.snd.snd.snd.fst) : Int))) (↑(List.length
  x.fst.snd.snd.snd.fst) : Int))) (0 : Int))).snd.snd.snd.snd.fst.fst) ∧ Wr ((quitB x.fst (List.getD x.fst.snd.snd.snd.fst (Int.toNat (Int.tmod (IntKind.wrap IntKind.i64 (Int.tmod x.snd.fst (↑(List.length
  x.fst.snd.snd.snd.fst) : Int) + (↑(List.length x.fst.snd.snd.snd.fst) : Int))) (↑(List.length x.fst.snd.snd.snd.fst) : Int))) (0 : Int))).snd.snd.snd.snd.fst.snd.fst = (quitB x.fst (List.getD x.fst.snd.snd.snd.fst
  (Int.toNat (Int.tmod (IntKind.wrap IntKind.i64 (Int.tmod x.snd.fst (↑(List.length x.fst.snd.snd.snd.fst) : Int) + (↑(List.length x.fst.snd.snd.snd.fst) : Int))) (↑(List.length x.fst.snd.snd.snd.fst) : Int))) (0 :
  Int))).snd.snd.snd.snd.fst.snd.fst) ∧ Wr ((quitB x.fst (List.getD x.fst.snd.snd.snd.fst (Int.toNat (Int.tmod (IntKind.wrap IntKind.i64 (Int.tmod x.snd.fst (↑(List.length x.fst.snd.snd.snd.fst) : Int) + (↑(List.length
  x.fst.snd.snd.snd.fst) : Int))) (↑(List.length x.fst.snd.snd.snd.fst) : Int))) (0 : Int))).snd.snd.snd.snd.fst.snd.snd.fst = (quitB x.fst (List.getD x.fst.snd.snd.snd.fst (Int.toNat (Int.tmod (IntKind.wrap IntKind.i64
  (Int.tmod x.snd.fst (↑(List.length x.fst.snd.snd.snd.fst) : Int) + (↑(List.length x.fst.snd.snd.snd.fst) : Int))) (↑(List.length x.fst.snd.snd.snd.fst) : Int))) (0 : Int))).snd.snd.snd.snd.fst.snd.snd.fst) ∧ Wr ((quitB
  x.fst (List.getD x.fst.snd.snd.snd.fst (Int.toNat (Int.tmod (IntKind.wrap IntKind.i64 (Int.tmod x.snd.fst (↑(List.length x.fst.snd.snd.snd.fst) : Int) + (↑(List.length x.fst.snd.snd.snd.fst) : Int))) (↑(List.length
  x.fst.snd.snd.snd.fst) : Int))) (0 : Int))).snd.snd.snd.snd.snd.fst = (quitB x.fst (List.getD x.fst.snd.snd.snd.fst (Int.toNat (Int.tmod (IntKind.wrap IntKind.i64 (Int.tmod x.snd.fst (↑(List.length
  x.fst.snd.snd.snd.fst) : Int) + (↑(List.length x.fst.snd.snd.snd.fst) : Int))) (↑(List.length x.fst.snd.snd.snd.fst) : Int))) (0 : Int))).snd.snd.snd.snd.snd.fst) ∧ Wr ((quitB x.fst (List.getD x.fst.snd.snd.snd.fst
  (Int.toNat (Int.tmod (IntKind.wrap IntKind.i64 (Int.tmod x.snd.fst (↑(List.length x.fst.snd.snd.snd.fst) : Int) + (↑(List.length x.fst.snd.snd.snd.fst) : Int))) (↑(List.length x.fst.snd.snd.snd.fst) : Int))) (0 :
  Int))).snd.snd.snd.snd.snd.snd.fst = (quitB x.fst (List.getD x.fst.snd.snd.snd.fst (Int.toNat (Int.tmod (IntKind.wrap IntKind.i64 (Int.tmod x.snd.fst (↑(List.length x.fst.snd.snd.snd.fst) : Int) + (↑(List.length
  x.fst.snd.snd.snd.fst) : Int))) (↑(List.length x.fst.snd.snd.snd.fst) : Int))) (0 : Int))).snd.snd.snd.snd.snd.snd.fst) ∧ Wr ((quitT x.fst (List.getD x.fst.snd.snd.snd.fst (Int.toNat (Int.tmod (IntKind.wrap IntKind.i64
  (Int.tmod x.snd.fst (↑(List.length x.fst.snd.snd.snd.fst) : Int) + (↑(List.length x.fst.snd.snd.snd.fst) : Int))) (↑(List.length x.fst.snd.snd.snd.fst) : Int))) (0 : Int))).fst = (quitT x.fst (List.getD
  x.fst.snd.snd.snd.fst (Int.toNat (Int.tmod (IntKind.wrap IntKind.i64 (Int.tmod x.snd.fst (↑(List.length x.fst.snd.snd.snd.fst) : Int) + (↑(List.length x.fst.snd.snd.snd.fst) : Int))) (↑(List.length
  x.fst.snd.snd.snd.fst) : Int))) (0 : Int))).fst) ∧ Wr ((quitT x.fst (List.getD x.fst.snd.snd.snd.fst (Int.toNat (Int.tmod (IntKind.wrap IntKind.i64 (Int.tmod x.snd.fst (↑(List.length x.fst.snd.snd.snd.fst) : Int) +
  (↑(List.length x.fst.snd.snd.snd.fst) : Int))) (↑(List.length x.fst.snd.snd.snd.fst) : Int))) (0 : Int))).snd.fst = (quitT x.fst (List.getD x.fst.snd.snd.snd.fst (Int.toNat (Int.tmod (IntKind.wrap IntKind.i64 (Int.tmod
  x.snd.fst (↑(List.length x.fst.snd.snd.snd.fst) : Int) + (↑(List.length x.fst.snd.snd.snd.fst) : Int))) (↑(List.length x.fst.snd.snd.snd.fst) : Int))) (0 : Int))).snd.fst) ∧ Wr ((quitT x.fst (List.getD
  x.fst.snd.snd.snd.fst (Int.toNat (Int.tmod (IntKind.wrap IntKind.i64 (Int.tmod x.snd.fst (↑(List.length x.fst.snd.snd.snd.fst) : Int) + (↑(List.length x.fst.snd.snd.snd.fst) : Int))) (↑(List.length
  x.fst.snd.snd.snd.fst) : Int))) (0 : Int))).snd.snd.fst = (quitT x.fst (List.getD x.fst.snd.snd.snd.fst (Int.toNat (Int.tmod (IntKind.wrap IntKind.i64 (Int.tmod x.snd.fst (↑(List.length x.fst.snd.snd.snd.fst) : Int) +
  (↑(List.length x.fst.snd.snd.snd.fst) : Int))) (↑(List.length x.fst.snd.snd.snd.fst) : Int))) (0 : Int))).snd.snd.fst) ∧ Wr ((quitT x.fst (List.getD x.fst.snd.snd.snd.fst (Int.toNat (Int.tmod (IntKind.wrap IntKind.i64
  (Int.tmod x.snd.fst (↑(List.length x.fst.snd.snd.snd.fst) : Int) + (↑(List.length x.fst.snd.snd.snd.fst) : Int))) (↑(List.length x.fst.snd.snd.snd.fst) : Int))) (0 : Int))).snd.snd.snd.fst = (quitT x.fst (List.getD
  x.fst.snd.snd.snd.fst (Int.toNat (Int.tmod (IntKind.wrap IntKind.i64 (Int.tmod x.snd.fst (↑(List.length x.fst.snd.snd.snd.fst) : Int) + (↑(List.length x.fst.snd.snd.snd.fst) : Int))) (↑(List.length
  x.fst.snd.snd.snd.fst) : Int))) (0 : Int))).snd.snd.snd.fst)))) (Wr (okW (quitB x.fst (List.getD x.fst.snd.snd.snd.fst (Int.toNat (Int.tmod (IntKind.wrap IntKind.i64 (Int.tmod x.snd.fst (↑(List.length
  x.fst.snd.snd.snd.fst) : Int) + (↑(List.length x.fst.snd.snd.snd.fst) : Int))) (↑(List.length x.fst.snd.snd.snd.fst) : Int))) (0 : Int))) = Bool.true) ∧ Wr (Decidable.decide (IntKind.wrap IntKind.i64 ((↑(List.length
  (quitT (quitB x.fst (List.getD x.fst.snd.snd.snd.fst (Int.toNat (Int.tmod (IntKind.wrap IntKind.i64 (Int.tmod x.snd.fst (↑(List.length x.fst.snd.snd.snd.fst) : Int) + (↑(List.length x.fst.snd.snd.snd.fst) : Int)))
  (↑(List.length x.fst.snd.snd.snd.fst) : Int))) (0 : Int))) (List.getD x.fst.snd.snd.snd.fst (Int.toNat (Int.tmod (IntKind.wrap IntKind.i64 (Int.tmod x.snd.fst (↑(List.length x.fst.snd.snd.snd.fst) : Int) +
  (↑(List.length x.fst.snd.snd.snd.fst) : Int))) (↑(List.length x.fst.snd.snd.snd.fst) : Int))) (0 : Int))).fst) : Int) + (↑(List.length (quitT (quitB x.fst (List.getD x.fst.snd.snd.snd.fst (Int.toNat (Int.tmod
  (IntKind.wrap IntKind.i64 (Int.tmod x.snd.fst (↑(List.length x.fst.snd.snd.snd.fst) : Int) + (↑(List.length x.fst.snd.snd.snd.fst) : Int))) (↑(List.length x.fst.snd.snd.snd.fst) : Int))) (0 : Int))) (List.getD
  x.fst.snd.snd.snd.fst (Int.toNat (Int.tmod (IntKind.wrap IntKind.i64 (Int.tmod x.snd.fst (↑(List.length x.fst.snd.snd.snd.fst) : Int) + (↑(List.length x.fst.snd.snd.snd.fst) : Int))) (↑(List.length
  x.fst.snd.snd.snd.fst) : Int))) (0 : Int))).snd.fst) : Int)) = (0 : Int)) = Bool.true → quitB (quitB x.fst (List.getD x.fst.snd.snd.snd.fst (Int.toNat (Int.tmod (IntKind.wrap IntKind.i64 (Int.tmod x.snd.fst
  (↑(List.length x.fst.snd.snd.snd.fst) : Int) + (↑(List.length x.fst.snd.snd.snd.fst) : Int))) (↑(List.length x.fst.snd.snd.snd.fst) : Int))) (0 : Int))) (List.getD x.fst.snd.snd.snd.fst (Int.toNat (Int.tmod
  (IntKind.wrap IntKind.i64 (Int.tmod x.snd.fst (↑(List.length x.fst.snd.snd.snd.fst) : Int) + (↑(List.length x.fst.snd.snd.snd.fst) : Int))) (↑(List.length x.fst.snd.snd.snd.fst) : Int))) (0 : Int)) = quitB x.fst
  (List.getD x.fst.snd.snd.snd.fst (Int.toNat (Int.tmod (IntKind.wrap IntKind.i64 (Int.tmod x.snd.fst (↑(List.length x.fst.snd.snd.snd.fst) : Int) + (↑(List.length x.fst.snd.snd.snd.fst) : Int))) (↑(List.length
  x.fst.snd.snd.snd.fst) : Int))) (0 : Int))) ∧ Wr ((Decidable.decide (IntKind.wrap IntKind.i64 ((↑(List.length (quitT (quitB x.fst (List.getD x.fst.snd.snd.snd.fst (Int.toNat (Int.tmod (IntKind.wrap IntKind.i64 (Int.tmod
  x.snd.fst (↑(List.length x.fst.snd.snd.snd.fst) : Int) + (↑(List.length x.fst.snd.snd.snd.fst) : Int))) (↑(List.length x.fst.snd.snd.snd.fst) : Int))) (0 : Int))) (List.getD x.fst.snd.snd.snd.fst (Int.toNat (Int.tmod
  (IntKind.wrap IntKind.i64 (Int.tmod x.snd.fst (↑(List.length x.fst.snd.snd.snd.fst) : Int) + (↑(List.length x.fst.snd.snd.snd.fst) : Int))) (↑(List.length x.fst.snd.snd.snd.fst) : Int))) (0 : Int))).fst) : Int) +
  (↑(List.length (quitT (quitB x.fst (List.getD x.fst.snd.snd.snd.fst (Int.toNat (Int.tmod (IntKind.wrap IntKind.i64 (Int.tmod x.snd.fst (↑(List.length x.fst.snd.snd.snd.fst) : Int) + (↑(List.length x.fst.snd.snd.snd.fst)
  : Int))) (↑(List.length x.fst.snd.snd.snd.fst) : Int))) (0 : Int))) (List.getD x.fst.snd.snd.snd.fst (Int.toNat (Int.tmod (IntKind.wrap IntKind.i64 (Int.tmod x.snd.fst (↑(List.length x.fst.snd.snd.snd.fst) : Int) +
  (↑(List.length x.fst.snd.snd.snd.fst) : Int))) (↑(List.length x.fst.snd.snd.snd.fst) : Int))) (0 : Int))).snd.fst) : Int)) = (0 : Int)) && Bool.true && (quitT x.fst (List.getD x.fst.snd.snd.snd.fst (Int.toNat (Int.tmod
  (IntKind.wrap IntKind.i64 (Int.tmod x.snd.fst (↑(List.length x.fst.snd.snd.snd.fst) : Int) + (↑(List.length x.fst.snd.snd.snd.fst) : Int))) (↑(List.length x.fst.snd.snd.snd.fst) : Int))) (0 : Int))).snd.snd.snd.fst ==
  (Decidable.decide (x.fst.snd.snd.snd.snd.fst.fst ≥ (0 : Int)) && !x.fst.snd.snd.snd.snd.fst.snd.fst && Decidable.decide ((↑(List.length x.fst.snd.snd.snd.fst) : Int) = (1 : Int)))) = Bool.true → szB (quitB x.fst
  (List.getD x.fst.snd.snd.snd.fst (Int.toNat (Int.tmod (IntKind.wrap IntKind.i64 (Int.tmod x.snd.fst (↑(List.length x.fst.snd.snd.snd.fst) : Int) + (↑(List.length x.fst.snd.snd.snd.fst) : Int))) (↑(List.length
  x.fst.snd.snd.snd.fst) : Int))) (0 : Int))) = Bool.true) ∧ Wr ((Decidable.decide (IntKind.wrap IntKind.i64 ((↑(List.length (quitT (quitB x.fst (List.getD x.fst.snd.snd.snd.fst (Int.toNat (Int.tmod (IntKind.wrap
  IntKind.i64 (Int.tmod x.snd.fst (↑(List.length x.fst.snd.snd.snd.fst) : Int) + (↑(List.length x.fst.snd.snd.snd.fst) : Int))) (↑(List.length x.fst.snd.snd.snd.fst) : Int))) (0 : Int))) (List.getD x.fst.snd.snd.snd.fst
  (Int.toNat (Int.tmod (IntKind.wrap IntKind.i64 (Int.tmod x.snd.fst (↑(List.length x.fst.snd.snd.snd.fst) : Int) + (↑(List.length x.fst.snd.snd.snd.fst) : Int))) (↑(List.length x.fst.snd.snd.snd.fst) : Int))) (0 :
  Int))).fst) : Int) + (↑(List.length (quitT (quitB x.fst (List.getD x.fst.snd.snd.snd.fst (Int.toNat (Int.tmod (IntKind.wrap IntKind.i64 (Int.tmod x.snd.fst (↑(List.length x.fst.snd.snd.snd.fst) : Int) + (↑(List.length
  x.fst.snd.snd.snd.fst) : Int))) (↑(List.length x.fst.snd.snd.snd.fst) : Int))) (0 : Int))) (List.getD x.fst.snd.snd.snd.fst (Int.toNat (Int.tmod (IntKind.wrap IntKind.i64 (Int.tmod x.snd.fst (↑(List.length
  x.fst.snd.snd.snd.fst) : Int) + (↑(List.length x.fst.snd.snd.snd.fst) : Int))) (↑(List.length x.fst.snd.snd.snd.fst) : Int))) (0 : Int))).snd.fst) : Int)) = (0 : Int)) && Bool.true && (quitT x.fst (List.getD
  x.fst.snd.snd.snd.fst (Int.toNat (Int.tmod (IntKind.wrap IntKind.i64 (Int.tmod x.snd.fst (↑(List.length x.fst.snd.snd.snd.fst) : Int) + (↑(List.length x.fst.snd.snd.snd.fst) : Int))) (↑(List.length
  x.fst.snd.snd.snd.fst) : Int))) (0 : Int))).snd.snd.snd.fst == (Decidable.decide (x.fst.snd.snd.snd.snd.fst.fst ≥ (0 : Int)) && !x.fst.snd.snd.snd.snd.fst.snd.fst && Decidable.decide ((↑(List.length
  x.fst.snd.snd.snd.fst) : Int) = (1 : Int)))) = Bool.true → szB x.fst = Bool.true) ∧ Wr ((Decidable.decide (IntKind.wrap IntKind.i64 ((↑(List.length (quitT (quitB x.fst (List.getD x.fst.snd.snd.snd.fst (Int.toNat
  (Int.tmod (IntKind.wrap IntKind.i64 (Int.tmod x.snd.fst (↑(List.length x.fst.snd.snd.snd.fst) : Int) + (↑(List.length x.fst.snd.snd.snd.fst) : Int))) (↑(List.length x.fst.snd.snd.snd.fst) : Int))) (0 : Int))) (List.getD
  x.fst.snd.snd.snd.fst (Int.toNat (Int.tmod (IntKind.wrap IntKind.i64 (Int.tmod x.snd.fst (↑(List.length x.fst.snd.snd.snd.fst) : Int) + (↑(List.length x.fst.snd.snd.snd.fst) : Int))) (↑(List.length
  x.fst.snd.snd.snd.fst) : Int))) (0 : Int))).fst) : Int) + (↑(List.length (quitT (quitB x.fst (List.getD x.fst.snd.snd.snd.fst (Int.toNat (Int.tmod (IntKind.wrap IntKind.i64 (Int.tmod x.snd.fst (↑(List.length
  x.fst.snd.snd.snd.fst) : Int) + (↑(List.length x.fst.snd.snd.snd.fst) : Int))) (↑(List.length x.fst.snd.snd.snd.fst) : Int))) (0 : Int))) (List.getD x.fst.snd.snd.snd.fst (Int.toNat (Int.tmod (IntKind.wrap IntKind.i64
  (Int.tmod x.snd.fst (↑(List.length x.fst.snd.snd.snd.fst) : Int) + (↑(List.length x.fst.snd.snd.snd.fst) : Int))) (↑(List.length x.fst.snd.snd.snd.fst) : Int))) (0 : Int))).snd.fst) : Int)) = (0 : Int)) && Bool.true &&
  (quitT x.fst (List.getD x.fst.snd.snd.snd.fst (Int.toNat (Int.tmod (IntKind.wrap IntKind.i64 (Int.tmod x.snd.fst (↑(List.length x.fst.snd.snd.snd.fst) : Int) + (↑(List.length x.fst.snd.snd.snd.fst) : Int)))
  (↑(List.length x.fst.snd.snd.snd.fst) : Int))) (0 : Int))).snd.snd.snd.fst == (Decidable.decide (x.fst.snd.snd.snd.snd.fst.fst ≥ (0 : Int)) && !x.fst.snd.snd.snd.snd.fst.snd.fst && Decidable.decide ((↑(List.length
  x.fst.snd.snd.snd.fst) : Int) = (1 : Int)))) = Bool.true → ownsL (quitB x.fst (List.getD x.fst.snd.snd.snd.fst (Int.toNat (Int.tmod (IntKind.wrap IntKind.i64 (Int.tmod x.snd.fst (↑(List.length x.fst.snd.snd.snd.fst) :
  Int) + (↑(List.length x.fst.snd.snd.snd.fst) : Int))) (↑(List.length x.fst.snd.snd.snd.fst) : Int))) (0 : Int))) = ownsL x.fst) ∧ Wr ((Decidable.decide (IntKind.wrap IntKind.i64 ((↑(List.length (quitT (quitB x.fst
  (List.getD x.fst.snd.snd.snd.fst (Int.toNat (Int.tmod (IntKind.wrap IntKind.i64 (Int.tmod x.snd.fst (↑(List.length x.fst.snd.snd.snd.fst) : Int) + (↑(List.length x.fst.snd.snd.snd.fst) : Int))) (↑(List.length
  x.fst.snd.snd.snd.fst) : Int))) (0 : Int))) (List.getD x.fst.snd.snd.snd.fst (Int.toNat (Int.tmod (IntKind.wrap IntKind.i64 (Int.tmod x.snd.fst (↑(List.length x.fst.snd.snd.snd.fst) : Int) + (↑(List.length
  x.fst.snd.snd.snd.fst) : Int))) (↑(List.length x.fst.snd.snd.snd.fst) : Int))) (0 : Int))).fst) : Int) + (↑(List.length (quitT (quitB x.fst (List.getD x.fst.snd.snd.snd.fst (Int.toNat (Int.tmod (IntKind.wrap IntKind.i64
  (Int.tmod x.snd.fst (↑(List.length x.fst.snd.snd.snd.fst) : Int) + (↑(List.length x.fst.snd.snd.snd.fst) : Int))) (↑(List.length x.fst.snd.snd.snd.fst) : Int))) (0 : Int))) (List.getD x.fst.snd.snd.snd.fst (Int.toNat
  (Int.tmod (IntKind.wrap IntKind.i64 (Int.tmod x.snd.fst (↑(List.length x.fst.snd.snd.snd.fst) : Int) + (↑(List.length x.fst.snd.snd.snd.fst) : Int))) (↑(List.length x.fst.snd.snd.snd.fst) : Int))) (0 : Int))).snd.fst) :
  Int)) = (0 : Int)) && Bool.true && (quitT x.fst (List.getD x.fst.snd.snd.snd.fst (Int.toNat (Int.tmod (IntKind.wrap IntKind.i64 (Int.tmod x.snd.fst (↑(List.length x.fst.snd.snd.snd.fst) : Int) + (↑(List.length
  x.fst.snd.snd.snd.fst) : Int))) (↑(List.length x.fst.snd.snd.snd.fst) : Int))) (0 : Int))).snd.snd.snd.fst == (Decidable.decide (x.fst.snd.snd.snd.snd.fst.fst ≥ (0 : Int)) && !x.fst.snd.snd.snd.snd.fst.snd.fst &&
  Decidable.decide ((↑(List.length x.fst.snd.snd.snd.fst) : Int) = (1 : Int))) && Bool.true) = Bool.true → Bool.true = Bool.true) ∧ (Decidable.decide (IntKind.wrap IntKind.i64 ((↑(List.length (quitT (quitB x.fst
  (List.getD x.fst.snd.snd.snd.fst (Int.toNat (Int.tmod (IntKind.wrap IntKind.i64 (Int.tmod x.snd.fst (↑(List.length x.fst.snd.snd.snd.fst) : Int) + (↑(List.length x.fst.snd.snd.snd.fst) : Int))) (↑(List.length
  x.fst.snd.snd.snd.fst) : Int))) (0 : Int))) (List.getD x.fst.snd.snd.snd.fst (Int.toNat (Int.tmod (IntKind.wrap IntKind.i64 (Int.tmod x.snd.fst (↑(List.length x.fst.snd.snd.snd.fst) : Int) + (↑(List.length
  x.fst.snd.snd.snd.fst) : Int))) (↑(List.length x.fst.snd.snd.snd.fst) : Int))) (0 : Int))).fst) : Int) + (↑(List.length (quitT (quitB x.fst (List.getD x.fst.snd.snd.snd.fst (Int.toNat (Int.tmod (IntKind.wrap IntKind.i64
  (Int.tmod x.snd.fst (↑(List.length x.fst.snd.snd.snd.fst) : Int) + (↑(List.length x.fst.snd.snd.snd.fst) : Int))) (↑(List.length x.fst.snd.snd.snd.fst) : Int))) (0 : Int))) (List.getD x.fst.snd.snd.snd.fst (Int.toNat
  (Int.tmod (IntKind.wrap IntKind.i64 (Int.tmod x.snd.fst (↑(List.length x.fst.snd.snd.snd.fst) : Int) + (↑(List.length x.fst.snd.snd.snd.fst) : Int))) (↑(List.length x.fst.snd.snd.snd.fst) : Int))) (0 : Int))).snd.fst) :
  Int)) = (0 : Int)) && Bool.true && (quitT x.fst (List.getD x.fst.snd.snd.snd.fst (Int.toNat (Int.tmod (IntKind.wrap IntKind.i64 (Int.tmod x.snd.fst (↑(List.length x.fst.snd.snd.snd.fst) : Int) + (↑(List.length
  x.fst.snd.snd.snd.fst) : Int))) (↑(List.length x.fst.snd.snd.snd.fst) : Int))) (0 : Int))).snd.snd.snd.fst == (Decidable.decide (x.fst.snd.snd.snd.snd.fst.fst ≥ (0 : Int)) && !x.fst.snd.snd.snd.snd.fst.snd.fst &&
  Decidable.decide ((↑(List.length x.fst.snd.snd.snd.fst) : Int) = (1 : Int))) && Bool.true && Bool.true, ()) = (Bool.true, ()))))) := by kernel_rfl
end Go.Proofs.Ytdkcgcgefgeooaa.Bk
set_option linter.all false
namespace Go.Proofs.Ytdkcgcgefgeooaa.Bk
open Go Go.Eng Go.RowKit
set_option maxRecDepth 100000
set_option maxHeartbeats 16000000
theorem v8 : Vc g8 300 Try.f8 cWakes := by
  constructor
  rw [v8_eq]
  simp only [Wr_iff]
  intro x _
  repeat' with_reducible apply And.intro
  all_goals first | rfl | exact fun _ => rfl | exact fun _ => by decide | decide
theorem great_f {b : Bk} (h : greatB b = false) : b.2.1.length ≤ 60 ∧ b.2.2.1.length ≤ 100 ∧ b.2.2.2.1.length ≤ 100 ∧ b.2.2.2.2.2.1.length ≤ 100 ∧ b.2.2.2.2.1.2.2.1 ≤ 1099511627776 := by
  simp only [greatB, Bool.or_eq_false_iff, decide_eq_false_iff_not] at h
  omega
theorem ck_0 {b : Bk} (h : ckE b = 0) : ckB b = true := by
  unfold ckE at h
  cases hk : ckB b with
  | true => rfl
  | false => rw [hk] at h; exact absurd h (by decide)
theorem nodup_take {l : List Int} (hn : l.Nodup) {i : Nat} (hi : i < l.length) : (l.take i).any (fun y => decide (y = l.getD i 0)) = false := by
  rw [List.any_eq_false]
  intro y hy e
  rw [decide_eq_true_eq] at e
  obtain ⟨k, hk, rfl⟩ := List.mem_iff_getElem.1 hy
  rw [List.length_take] at hk
  rw [List.getElem_take, List.getD_eq_getElem?_getD, List.getElem?_eq_getElem hi] at e
  rw [List.Nodup, List.pairwise_iff_getElem] at hn
  exact hn k i (by omega) hi (by omega) e
theorem del_len (l : List Int) (j : Nat) (hj : j < l.length) : (delL l (j : Int) ((j : Int) + 1)).length = l.length - 1 := by
  rw [delL, List.length_append, List.length_take, List.length_drop]; omega
theorem del_sub (l : List Int) (j : Nat) : List.Sublist (delL l (j : Int) ((j : Int) + 1)) l := by
  have e1 : ((j : Int) + 1).toNat = j + 1 := by omega
  rw [delL, Int.toNat_natCast, e1]
  have h2 : l = l.take j ++ l.drop j := (List.take_append_drop j l).symm
  have h3 : (l.drop (j + 1)).Sublist (l.drop j) := by
    rw [← List.drop_drop]
    exact List.drop_sublist _ _
  exact (List.Sublist.append (List.Sublist.refl _) h3).trans (by rw [← h2]; exact List.Sublist.refl _)
theorem del_notin (l : List Int) (j : Nat) (hj : j < l.length) (hn : l.Nodup) : (delL l (j : Int) ((j : Int) + 1)).any (fun y => decide (y = l.getD j 0)) = false := by
  have e1 : ((j : Int) + 1).toNat = j + 1 := by omega
  rw [delL, Int.toNat_natCast, e1, List.any_append, nodup_take hn hj, Bool.false_or, List.any_eq_false]
  intro y hy e
  rw [decide_eq_true_eq] at e
  obtain ⟨k, hk, rfl⟩ := List.mem_iff_getElem.1 hy
  rw [List.length_drop] at hk
  rw [List.getElem_drop, List.getD_eq_getElem?_getD, List.getElem?_eq_getElem hj] at e
  rw [List.Nodup, List.pairwise_iff_getElem] at hn
  exact hn j (j + 1 + k) hj (by omega) (by omega) e.symm
theorem del_lo (l : List Int) (j k : Nat) (h : k < j) (hj : j < l.length) : (delL l (j : Int) ((j : Int) + 1)).getD k 0 = l.getD k 0 := by
  have e1 : ((j : Int) + 1).toNat = j + 1 := by omega
  rw [delL, Int.toNat_natCast, e1, List.getD_eq_getElem?_getD, List.getD_eq_getElem?_getD, List.getElem?_append_left (by rw [List.length_take]; omega), List.getElem?_take_of_lt h]
theorem del_hi (l : List Int) (j k : Nat) (h : j ≤ k) (hj : j < l.length) : (delL l (j : Int) ((j : Int) + 1)).getD k 0 = l.getD (k + 1) 0 := by
  have e1 : ((j : Int) + 1).toNat = j + 1 := by omega
  rw [delL, Int.toNat_natCast, e1, List.getD_eq_getElem?_getD, List.getD_eq_getElem?_getD, List.getElem?_append_right (by rw [List.length_take]; omega), List.length_take, List.getElem?_drop]
  congr 2
  omega
theorem v3 : Vc g3 300 Try.f3 cQuitL.T := by
  constructor
  rw [v3_eq]
  simp only [Wr_iff, bcase_iff, true_and, and_true, decide_eq_true_eq, decide_eq_false_iff_not, Bool.and_eq_true, Bool.and_eq_false_iff, Bool.or_eq_true, Bool.or_eq_false_iff, Bool.not_eq_true', Bool.not_eq_false', Option.map_some, Option.getD_some, Option.isSome_some, Option.isSome_map, imp_self, nilL, noneO]
  rintro ⟨⟨cf, id, le, wa, fl, sc, cl, ⟨⟩⟩, i, ⟨⟩⟩ ht
  dsimp only
  have hsz : greatB (cf, id, le, wa, fl, sc, cl, ()) = false → szB (cf, id, le, wa, fl, sc, cl, ()) = true := fun h => by
    have hg := great_f h
    dsimp only at hg
    exact (szB_iff _).2 ⟨by dsimp only; omega, by dsimp only; omega, by dsimp only; omega, by dsimp only; omega, by dsimp only; omega⟩
  refine ⟨hsz, fun _ => trivial, ?_⟩
  rintro ⟨⟨hgr, hck⟩, hne⟩
  have hg := great_f hgr
  dsimp only at hg
  have hb := hsz hgr
  have hkB := ck_0 hck
  simp only [ckB, Bool.and_eq_true, Bool.or_eq_true, decide_eq_true_eq, Bool.not_eq_true'] at hkB
  obtain ⟨⟨⟨k1, k2⟩, k3, k4, k5⟩, k6, k7⟩ := hkB
  have hL : (0 : Int) < (wa.length : Int) := by omega
  have t1 := Int.tmod_lt_of_pos i hL
  have t2 := Int.lt_tmod_of_pos i hL
  have ew : IntKind.wrap .i64 (Int.tmod i (wa.length : Int) + (wa.length : Int)) = Int.tmod i (wa.length : Int) + (wa.length : Int) := wrap_id (by omega) (by omega)
  rw [ew]
  have t3 := Int.tmod_lt_of_pos (Int.tmod i (wa.length : Int) + (wa.length : Int)) hL
  have t4 : 0 ≤ Int.tmod (Int.tmod i (wa.length : Int) + (wa.length : Int)) (wa.length : Int) := Int.tmod_nonneg _ (by omega)
  generalize Int.tmod (Int.tmod i (wa.length : Int) + (wa.length : Int)) (wa.length : Int) = J at t3 t4 ⊢
  obtain ⟨j, rfl⟩ : ∃ j : Nat, J = j := ⟨J.toNat, by omega⟩
  rw [Int.toNat_natCast]
  have hj : j < wa.length := by omega
  have hix : idxN (wa.getD j 0) wa = (j : Int) := idx_split _ _ _ hj (nodup_take k5 hj) rfl
  have hqB : quitB (cf, id, le, wa, fl, sc, cl, ()) (wa.getD j 0) = mkB cf id le (delL wa (j : Int) ((j : Int) + 1)) (partF fl 1) sc cl := by
    unfold quitB; dsimp only; rw [hix, decide_eq_true (show (0 : Int) ≤ (j : Int) by omega)]; rfl
  have hqT : quitT (cf, id, le, wa, fl, sc, cl, ()) (wa.getD j 0) = ([(wa.getD j 0, -1, 191, ())], [], endsB (mkB cf id le (delL wa (j : Int) ((j : Int) + 1)) (partF fl 1) sc cl), partC fl 1, ()) := by
    unfold quitT; rw [hqB]; dsimp only; rw [hix, decide_eq_true (show (0 : Int) ≤ (j : Int) by omega)]; rfl
  have hdl := del_len wa j hj
  have hds := del_sub wa j
  have hdn := del_notin wa j hj k5
  have hlo := fun k h => del_lo wa j k h hj
  have hhi := fun k h => del_hi wa j k h hj
  rw [hqB, hqT]
  generalize delL wa (j : Int) ((j : Int) + 1) = wa' at *
  have hqB2 : quitB (mkB cf id le wa' (partF fl 1) sc cl) (wa.getD j 0) = mkB cf id le wa' (partF fl 1) sc cl := by
    unfold quitB; dsimp only; rw [idx_none hdn]; rfl
  have hqT2 : quitT (mkB cf id le wa' (partF fl 1) sc cl) (wa.getD j 0) = ([], [], endsB (mkB cf id le wa' (partF fl 1) sc cl), false, ()) := by
    unfold quitT; rw [hqB2]; dsimp only; rw [idx_none hdn]; rfl
  rw [hqB2, hqT2]
  have hpn : (partF fl 1).2.2.1 = (wa'.length : Int) := by simp only [partF, partN]; omega
  have hsz2 : szB (mkB cf id le wa' (partF fl 1) sc cl) = true := (szB_iff _).2 ⟨by dsimp only; omega, by dsimp only; omega, by dsimp only; omega, by dsimp only; omega, by dsimp only; omega⟩
  have hfl2 : flB (partF fl 1) = true := by
    simp only [flB, Bool.and_eq_true, Bool.or_eq_true, decide_eq_true_eq, Bool.not_eq_true'] at k1 ⊢
    refine ⟨⟨k1.1.1, by omega⟩, ?_⟩
    have ho : onF (partF fl 1) = onF fl := rfl
    rw [ho]
    cases hon : onF fl with
    | true => exact Or.inr rfl
    | false =>
      left
      have hd : fl.2.1 = false := k1.2.resolve_right (by rw [hon]; decide)
      simp only [partF, partC, hon, hd, Bool.false_or, Bool.false_and]
  have hck2 : ckE (mkB cf id le wa' (partF fl 1) sc cl) = 0 := ck_yes hfl2 hpn k3 k4 (hds.nodup k5) (by dsimp only; omega) (by
    left
    rcases k7 with k7 | k7
    · exact k7
    · omega)
  have ew2 : IntKind.wrap .i64 ((wa.length : Int) - 1) = (wa.length : Int) - 1 := wrap_id (by omega) (by omega)
  rw [ew2]
  have hpc : partC fl 1 = (decide (fl.1 ≥ 0) && !fl.2.1 && decide ((wa.length : Int) = 1)) := by
    have e1 : decide (partN fl 1 = 0) = decide ((wa.length : Int) = 1) := by
      rw [decide_eq_decide]
      simp only [partN]
      omega
    simp only [partC, onF, e1, ge_iff_le, Bool.and_assoc]
  have hokw : okW (cf, id, le, wa, fl, sc, cl, ()) = true := by simp only [okW, szI, decide_eq_true_eq]; omega
  have hokw2 : okW (mkB cf id le wa' (partF fl 1) sc cl) = true := by simp only [okW, szI, decide_eq_true_eq]; omega
  refine ⟨hne, hne, by omega, t3, hokw, fun _ => Int.le_refl _, fun _ => by simp, fun _ => trivial, fun _ => hsz2, fun h => ?_, fun _ => ⟨⟨by omega, by dsimp only; omega⟩, fun k hu => ?_⟩⟩
  · exfalso
    rcases h with (((h | h) | h) | h) | h
    · exact h rfl
    · exact absurd ((eqb_iff RepT (by decide) _ _).2 rfl) (by rw [show RepT.eqb (wa.getD j 0, -1, 191, ()) (wa.getD j 0, -1, 191, ()) = false from h]; decide)
    · exact h rfl
    · apply h; dsimp only; omega
    · exact h hck2
  · have h0 := hu.i0
    have ewk : k < (wa'.length : Int) → IntKind.wrap .i64 (k + 1) = k + 1 := fun hk => wrap_id (by omega) (by omega)
    refine ⟨fun hk => ?_, fun hk => ⟨hokw2, fun _ => rfl, fun _ => hsz2, fun _ => hb, fun _ => rfl, fun _ => trivial, ?_⟩⟩
    · have hk : k < (wa'.length : Int) := hk
      rw [ewk hk]
      dsimp only
      refine ⟨fun hkj => ⟨h0, hk, by omega, by omega, fun hd => ?_, fun _ => ⟨⟨by omega, by omega⟩, by omega⟩⟩, fun hkj => ⟨h0, hk, h0, by omega, fun hd => ?_, fun _ => ⟨⟨by omega, by omega⟩, by omega⟩⟩⟩
      · exfalso
        apply hd
        rw [hhi k.toNat (by omega)]
        congr 1
        omega
      · exfalso
        apply hd
        rw [hlo k.toNat (by omega)]
    · dsimp only
      rw [hpc]
      simp
      exact wrap_id (by omega) (by omega)
end Go.Proofs.Ytdkcgcgefgeooaa.Bk
namespace Go.Proofs.Ytdkcgcgefgeooaa.Bk
open Go Go.Eng 
set_option maxRecDepth 100000
theorem val8 : Valid Try.prog GW 8 cWakes := mkValid gws Tb.mix Tb.tab_ok Tb.eqs_ok g8 rfl (allV_cons val10 (allV_cons val11 (allV_cons val13 (allV_cons val15 (allV_cons val16 (allV_cons val17 (allV_cons val18 (allV_cons val19 (allV_cons val26 allV_nil))))))))) allI_nil Try.func8 (by kernel_rfl) v8
theorem val3 : Valid Try.prog GW 3 cQuitL := Valid.T (mkValid gws Tb.mix Tb.tab_ok Tb.eqs_ok g3 rfl (allV_cons val6 (allV_cons val7 (allV_cons val8 (allV_cons val9 (allV_cons val10 (allV_cons val11 (allV_cons val12 (allV_cons val13 allV_nil)))))))) allI_nil Try.func3 (by kernel_rfl) v3)
end Go.Proofs.Ytdkcgcgefgeooaa.Bk
namespace Go.Proofs.Ytdkcgcgefgeooaa.Bk
open Go Go.Eng 
set_option maxRecDepth 100000
noncomputable def g4 : Cfg := { tab := Tb.tab, cons := [(6, cGreat), (8, cWakes), (10, cCk), (11, cSameB), (12, (cSam I64)), (13, cOwns), (14, cClose), (15, cAsk), (16, cBack), (17, cTold), (18, cOver)], inls := [], loops := [(7, clA)], cuts := [], unroll := true, arrs := [], keys := [] }
end Go.Proofs.Ytdkcgcgefgeooaa.Bk
namespace Go.Proofs.Ytdkcgcgefgeooaa.Bk
open Go Go.Eng 
set_option maxRecDepth 100000
theorem v4_eq : vcFn g4 300 Try.f4 cCloseL.T = ( ∀ (x : ((Int × Int × Int × Int × Int × Int × Int × Int × Int × Unit) × List (Int × Int × Unit) × List Int × List Int × (Int × Bool × Int × Unit) × List ((Int × (Int × Int × Int × Int × Int × Int × Int × Int × Unit) × Int
  × Unit) × Int × Unit) × Bool × Unit) × Int × Int × Int × Unit), Wr (typedB (Ty.cons BookT (Ty.cons I64 (Ty.cons I64 (Ty.cons I64 Ty.unit)))) x = Bool.true ∧ Bool.true = Bool.true) → Wr (Bool.true = Bool.true) ∧ Wr
  ((!greatB x.fst) = Bool.true → szB x.fst = Bool.true) ∧ bcase (greatB x.fst || !Decidable.decide (ckE x.fst = (0 : Int)) || x.fst.snd.snd.snd.snd.snd.snd.fst || Decidable.decide (Min.min (Min.min x.snd.fst
  x.snd.snd.fst) x.snd.snd.snd.fst < (0 : Int)) || Decidable.decide (Max.max (Max.max x.snd.fst x.snd.snd.fst) x.snd.snd.snd.fst > (1000 : Int))) (Wr (Bool.true = Bool.true) ∧ (Bool.true, ()) = (Bool.true, ())) (Wr (szB
  x.fst = Bool.true) ∧ Wr ((!!Decidable.decide ((↑(List.length (outT (closeD x.fst x.snd.fst)).fst) : Int) = IntKind.wrap IntKind.i64 ((↑(List.length x.fst.snd.snd.snd.fst) : Int) + (1 : Int)))) = Bool.true → (0 : Int) ≤
  (↑(List.length x.fst.snd.snd.snd.fst) : Int)) ∧ Wr ((!!Decidable.decide ((↑(List.length (outT (closeD x.fst x.snd.fst)).fst) : Int) = IntKind.wrap IntKind.i64 ((↑(List.length x.fst.snd.snd.snd.fst) : Int) + (1 : Int))))
  = Bool.true → (↑(List.length x.fst.snd.snd.snd.fst) : Int) < (↑(List.length (outT (closeD x.fst x.snd.fst)).fst) : Int)) ∧ Wr ((!!Decidable.decide ((↑(List.length (outT (closeD x.fst x.snd.fst)).fst) : Int) =
  IntKind.wrap IntKind.i64 ((↑(List.length x.fst.snd.snd.snd.fst) : Int) + (1 : Int)))) = Bool.true → Bool.true = Bool.true) ∧ Wr ((!(!Decidable.decide ((↑(List.length (outT (closeD x.fst x.snd.fst)).fst) : Int) =
  IntKind.wrap IntKind.i64 ((↑(List.length x.fst.snd.snd.snd.fst) : Int) + (1 : Int))) || !Ty.eqb (Ty.cons (Ty.int IntKind.i64) (Ty.cons (Ty.int IntKind.i64) (Ty.cons (Ty.int IntKind.i64) Ty.unit))) (List.getD (outT
  (closeD x.fst x.snd.fst)).fst (Int.toNat (↑(List.length x.fst.snd.snd.snd.fst) : Int)) (Ty.zero RepT)) (x.snd.fst, (-1 : Int), (0 : Int), ()))) = Bool.true → szB x.fst = Bool.true) ∧ Wr ((!(!Decidable.decide
  ((↑(List.length (outT (closeD x.fst x.snd.fst)).fst) : Int) = IntKind.wrap IntKind.i64 ((↑(List.length x.fst.snd.snd.snd.fst) : Int) + (1 : Int))) || !Ty.eqb (Ty.cons (Ty.int IntKind.i64) (Ty.cons (Ty.int IntKind.i64)
  (Ty.cons (Ty.int IntKind.i64) Ty.unit))) (List.getD (outT (closeD x.fst x.snd.fst)).fst (Int.toNat (↑(List.length x.fst.snd.snd.snd.fst) : Int)) (Ty.zero RepT)) (x.snd.fst, (-1 : Int), (0 : Int), ()))) = Bool.true →
  (outT (closeD x.fst x.snd.fst)).snd.fst = ownsL x.fst) ∧ bcase (!Decidable.decide ((↑(List.length (outT (closeD x.fst x.snd.fst)).fst) : Int) = IntKind.wrap IntKind.i64 ((↑(List.length x.fst.snd.snd.snd.fst) : Int) + (1
  : Int))) || !Ty.eqb (Ty.cons (Ty.int IntKind.i64) (Ty.cons (Ty.int IntKind.i64) (Ty.cons (Ty.int IntKind.i64) Ty.unit))) (List.getD (outT (closeD x.fst x.snd.fst)).fst (Int.toNat (↑(List.length x.fst.snd.snd.snd.fst) :
  Int)) (Ty.zero RepT)) (x.snd.fst, (-1 : Int), (0 : Int), ()) || !Bool.true || (outT (closeD x.fst x.snd.fst)).snd.snd.fst || !(outB (closeD x.fst x.snd.fst)).snd.snd.snd.snd.snd.snd.fst) ((Bool.false, ()) = (Bool.true,
  ())) ((Wr (QuI (↑(List.length x.fst.snd.snd.snd.fst) : Int) (0 : Int)) ∧ Wr ((0 : Int) = (0 : Int)) ∧ Wr (x.snd.fst = x.snd.fst) ∧ Wr (x.snd.snd.fst = x.snd.snd.fst) ∧ Wr (x.snd.snd.snd.fst = x.snd.snd.snd.fst) ∧ Wr
  (x.fst.fst.fst = x.fst.fst.fst) ∧ Wr (x.fst.fst.snd.fst = x.fst.fst.snd.fst) ∧ Wr (x.fst.fst.snd.snd.fst = x.fst.fst.snd.snd.fst) ∧ Wr (x.fst.fst.snd.snd.snd.fst = x.fst.fst.snd.snd.snd.fst) ∧ Wr
  (x.fst.fst.snd.snd.snd.snd.fst = x.fst.fst.snd.snd.snd.snd.fst) ∧ Wr (x.fst.fst.snd.snd.snd.snd.snd.fst = x.fst.fst.snd.snd.snd.snd.snd.fst) ∧ Wr (x.fst.fst.snd.snd.snd.snd.snd.snd.fst =
  x.fst.fst.snd.snd.snd.snd.snd.snd.fst) ∧ Wr (x.fst.fst.snd.snd.snd.snd.snd.snd.snd.fst = x.fst.fst.snd.snd.snd.snd.snd.snd.snd.fst) ∧ Wr (x.fst.fst.snd.snd.snd.snd.snd.snd.snd.snd.fst =
  x.fst.fst.snd.snd.snd.snd.snd.snd.snd.snd.fst) ∧ Wr (x.fst.snd.fst = x.fst.snd.fst) ∧ Wr (x.fst.snd.snd.fst = x.fst.snd.snd.fst) ∧ Wr (x.fst.snd.snd.snd.fst = x.fst.snd.snd.snd.fst) ∧ Wr (x.fst.snd.snd.snd.snd.fst.fst =
  x.fst.snd.snd.snd.snd.fst.fst) ∧ Wr (x.fst.snd.snd.snd.snd.fst.snd.fst = x.fst.snd.snd.snd.snd.fst.snd.fst) ∧ Wr (x.fst.snd.snd.snd.snd.fst.snd.snd.fst = x.fst.snd.snd.snd.snd.fst.snd.snd.fst) ∧ Wr
  (x.fst.snd.snd.snd.snd.snd.fst = x.fst.snd.snd.snd.snd.snd.fst) ∧ Wr (x.fst.snd.snd.snd.snd.snd.snd.fst = x.fst.snd.snd.snd.snd.snd.snd.fst) ∧ Wr ((outB (closeD x.fst x.snd.fst)).fst.fst = (outB (closeD x.fst
  x.snd.fst)).fst.fst) ∧ Wr ((outB (closeD x.fst x.snd.fst)).fst.snd.fst = (outB (closeD x.fst x.snd.fst)).fst.snd.fst) ∧ Wr ((outB (closeD x.fst x.snd.fst)).fst.snd.snd.fst = (outB (closeD x.fst
  x.snd.fst)).fst.snd.snd.fst) ∧ Wr ((outB (closeD x.fst x.snd.fst)).fst.snd.snd.snd.fst = (outB (closeD x.fst x.snd.fst)).fst.snd.snd.snd.fst) ∧ Wr ((outB (closeD x.fst x.snd.fst)).fst.snd.snd.snd.snd.fst = (outB (closeD
  x.fst x.snd.fst)).fst.snd.snd.snd.snd.fst) ∧ Wr ((outB (closeD x.fst x.snd.fst)).fst.snd.snd.snd.snd.snd.fst = (outB (closeD x.fst x.snd.fst)).fst.snd.snd.snd.snd.snd.fst) ∧ Wr ((outB (closeD x.fst
  x.snd.fst)).fst.snd.snd.snd.snd.snd.snd.fst = (outB (closeD x.fst x.snd.fst)).fst.snd.snd.snd.snd.snd.snd.fst) ∧ Wr ((outB (closeD x.fst x.snd.fst)).fst.snd.snd.snd.snd.snd.snd.snd.fst = (outB (closeD x.fst
  x.snd.fst)).fst.snd.snd.snd.snd.snd.snd.snd.fst) ∧ Wr ((outB (closeD x.fst x.snd.fst)).fst.snd.snd.snd.snd.snd.snd.snd.snd.fst = (outB (closeD x.fst x.snd.fst)).fst.snd.snd.snd.snd.snd.snd.snd.snd.fst) ∧ Wr ((outB
  (closeD x.fst x.snd.fst)).snd.fst = (outB (closeD x.fst x.snd.fst)).snd.fst) ∧ Wr ((outB (closeD x.fst x.snd.fst)).snd.snd.fst = (outB (closeD x.fst x.snd.fst)).snd.snd.fst) ∧ Wr ((outB (closeD x.fst
  x.snd.fst)).snd.snd.snd.fst = (outB (closeD x.fst x.snd.fst)).snd.snd.snd.fst) ∧ Wr ((outB (closeD x.fst x.snd.fst)).snd.snd.snd.snd.fst.fst = (outB (closeD x.fst x.snd.fst)).snd.snd.snd.snd.fst.fst) ∧ Wr ((outB (closeD
  x.fst x.snd.fst)).snd.snd.snd.snd.fst.snd.fst = (outB (closeD x.fst x.snd.fst)).snd.snd.snd.snd.fst.snd.fst) ∧ Wr ((outB (closeD x.fst x.snd.fst)).snd.snd.snd.snd.fst.snd.snd.fst = (outB (closeD x.fst
  x.snd.fst)).snd.snd.snd.snd.fst.snd.snd.fst) ∧ Wr ((outB (closeD x.fst x.snd.fst)).snd.snd.snd.snd.snd.fst = (outB (closeD x.fst x.snd.fst)).snd.snd.snd.snd.snd.fst) ∧ Wr ((outB (closeD x.fst
  x.snd.fst)).snd.snd.snd.snd.snd.snd.fst = (outB (closeD x.fst x.snd.fst)).snd.snd.snd.snd.snd.snd.fst) ∧ Wr ((outT (closeD x.fst x.snd.fst)).fst = (outT (closeD x.fst x.snd.fst)).fst) ∧ Wr ((outT (closeD x.fst
  x.snd.fst)).snd.fst = (outT (closeD x.fst x.snd.fst)).snd.fst) ∧ Wr ((outT (closeD x.fst x.snd.fst)).snd.snd.fst = (outT (closeD x.fst x.snd.fst)).snd.snd.fst) ∧ Wr ((outT (closeD x.fst x.snd.fst)).snd.snd.snd.fst =
  (outT (closeD x.fst x.snd.fst)).snd.snd.snd.fst)) ∧ ∀ (x_1 : Int), Wr (QuI (↑(List.length x.fst.snd.snd.snd.fst) : Int) x_1) → bcase (Decidable.decide (x_1 < (↑(List.length x.fst.snd.snd.snd.fst) : Int))) (Wr ((0 : Int)
  ≤ x_1) ∧ Wr (x_1 < (↑(List.length (outT (closeD x.fst x.snd.fst)).fst) : Int)) ∧ Wr (Bool.true = Bool.true) ∧ Wr ((0 : Int) ≤ x_1) ∧ Wr (x_1 < (↑(List.length x.fst.snd.snd.snd.fst) : Int)) ∧ Wr (Bool.true = Bool.true) ∧
  bcase (!Ty.eqb (Ty.cons (Ty.int IntKind.i64) (Ty.cons (Ty.int IntKind.i64) (Ty.cons (Ty.int IntKind.i64) Ty.unit))) (List.getD (outT (closeD x.fst x.snd.fst)).fst (Int.toNat x_1) (Ty.zero RepT)) (List.getD
  x.fst.snd.snd.snd.fst (Int.toNat x_1) (0 : Int), (-1 : Int), (240 : Int), ())) ((Bool.false, ()) = (Bool.true, ())) (Wr (QuI (↑(List.length x.fst.snd.snd.snd.fst) : Int) (IntKind.wrap IntKind.i64 (x_1 + (1 : Int)))) ∧
  Wr (List.length x.fst.snd.snd.snd.fst - Int.toNat (IntKind.wrap IntKind.i64 (x_1 + (1 : Int))) < List.length x.fst.snd.snd.snd.fst - Int.toNat x_1) ∧ Wr (IntKind.wrap IntKind.i64 (x_1 + (1 : Int)) = IntKind.wrap
  IntKind.i64 (x_1 + (1 : Int))) ∧ Wr (x.snd.fst = x.snd.fst) ∧ Wr (x.snd.snd.fst = x.snd.snd.fst) ∧ Wr (x.snd.snd.snd.fst = x.snd.snd.snd.fst) ∧ Wr (x.fst.fst.fst = x.fst.fst.fst) ∧ Wr (x.fst.fst.snd.fst =
  x.fst.fst.snd.fst) ∧ Wr (x.fst.fst.snd.snd.fst = x.fst.fst.snd.snd.fst) ∧ Wr (x.fst.fst.snd.snd.snd.fst = x.fst.fst.snd.snd.snd.fst) ∧ Wr (x.fst.fst.snd.snd.snd.snd.fst = x.fst.fst.snd.snd.snd.snd.fst) ∧ Wr
  (x.fst.fst.snd.snd.snd.snd.snd.fst = x.fst.fst.snd.snd.snd.snd.snd.fst) ∧ Wr (x.fst.fst.snd.snd.snd.snd.snd.snd.fst = x.fst.fst.snd.snd.snd.snd.snd.snd.fst) ∧ Wr (x.fst.fst.snd.snd.snd.snd.snd.snd.snd.fst =
  x.fst.fst.snd.snd.snd.snd.snd.snd.snd.fst) ∧ Wr (x.fst.fst.snd.snd.snd.snd.snd.snd.snd.snd.fst = x.fst.fst.snd.snd.snd.snd.snd.snd.snd.snd.fst) ∧ Wr (x.fst.snd.fst = x.fst.snd.fst) ∧ Wr (x.fst.snd.snd.fst =
  x.fst.snd.snd.fst) ∧ Wr (x.fst.snd.snd.snd.fst = x.fst.snd.snd.snd.fst) ∧ Wr (x.fst.snd.snd.snd.snd.fst.fst = x.fst.snd.snd.snd.snd.fst.fst) ∧ Wr (x.fst.snd.snd.snd.snd.fst.snd.fst = x.fst.snd.snd.snd.snd.fst.snd.fst) ∧
  Wr (x.fst.snd.snd.snd.snd.fst.snd.snd.fst = x.fst.snd.snd.snd.snd.fst.snd.snd.fst) ∧ Wr (x.fst.snd.snd.snd.snd.snd.fst = x.fst.snd.snd.snd.snd.snd.fst) ∧ Wr (x.fst.snd.snd.snd.snd.snd.snd.fst =
  x.fst.snd.snd.snd.snd.snd.snd.fst) ∧ Wr ((outB (closeD x.fst x.snd.fst)).fst.fst = (outB (closeD x.fst x.snd.fst)).fst.fst) ∧ Wr ((outB (closeD x.fst x.snd.fst)).fst.snd.fst = (outB (closeD x.fst
  x.snd.fst)).fst.snd.fst) ∧ Wr ((outB (closeD x.fst x.snd.fst)).fst.snd.snd.fst = (outB (closeD x.fst x.snd.fst)).fst.snd.snd.fst) ∧ Wr ((outB (closeD x.fst x.snd.fst)).fst.snd.snd.snd.fst = (outB (closeD x.fst
  x.snd.fst)).fst.snd.snd.snd.fst) ∧ Wr ((outB (closeD x.fst x.snd.fst)).fst.snd.snd.snd.snd.fst = (outB (closeD x.fst x.snd.fst)).fst.snd.snd.snd.snd.fst) ∧ Wr ((outB (closeD x.fst x.snd.fst)).fst.snd.snd.snd.snd.snd.fst
  = (outB (closeD x.fst x.snd.fst)).fst.snd.snd.snd.snd.snd.fst) ∧ Wr ((outB (closeD x.fst x.snd.fst)).fst.snd.snd.snd.snd.snd.snd.fst = (outB (closeD x.fst x.snd.fst)).fst.snd.snd.snd.snd.snd.snd.fst) ∧ Wr ((outB (closeD
  x.fst x.snd.fst)).fst.snd.snd.snd.snd.snd.snd.snd.fst = (outB (closeD x.fst x.snd.fst)).fst.snd.snd.snd.snd.snd.snd.snd.fst) ∧ Wr ((outB (closeD x.fst x.snd.fst)).fst.snd.snd.snd.snd.snd.snd.snd.snd.fst = (outB (closeD
  x.fst x.snd.fst)).fst.snd.snd.snd.snd.snd.snd.snd.snd.fst) ∧ Wr ((outB (closeD x.fst x.snd.fst)).snd.fst = (outB (closeD x.fst x.snd.fst)).snd.fst) ∧ Wr ((outB (closeD x.fst x.snd.fst)).snd.snd.fst = (outB (closeD x.fst
  x.snd.fst)).snd.snd.fst) ∧ Wr ((outB (closeD x.fst x.snd.fst)).snd.snd.snd.fst = (outB (closeD x.fst x.snd.fst)).snd.snd.snd.fst) ∧ Wr ((outB (closeD x.fst x.snd.fst)).snd.snd.snd.snd.fst.fst = (outB (closeD x.fst
  x.snd.fst)).snd.snd.snd.snd.fst.fst) ∧ Wr ((outB (closeD x.fst x.snd.fst)).snd.snd.snd.snd.fst.snd.fst = (outB (closeD x.fst x.snd.fst)).snd.snd.snd.snd.fst.snd.fst) ∧ Wr ((outB (closeD x.fst
  x.snd.fst)).snd.snd.snd.snd.fst.snd.snd.fst = (outB (closeD x.fst x.snd.fst)).snd.snd.snd.snd.fst.snd.snd.fst) ∧ Wr ((outB (closeD x.fst x.snd.fst)).snd.snd.snd.snd.snd.fst = (outB (closeD x.fst
  x.snd.fst)).snd.snd.snd.snd.snd.fst) ∧ Wr ((outB (closeD x.fst x.snd.fst)).snd.snd.snd.snd.snd.snd.fst = (outB (closeD x.fst x.snd.fst)).snd.snd.snd.snd.snd.snd.fst) ∧ Wr ((outT (closeD x.fst x.snd.fst)).fst = (outT
  (closeD x.fst x.snd.fst)).fst) ∧ Wr ((outT (closeD x.fst x.snd.fst)).snd.fst = (outT (closeD x.fst x.snd.fst)).snd.fst) ∧ Wr ((outT (closeD x.fst x.snd.fst)).snd.snd.fst = (outT (closeD x.fst x.snd.fst)).snd.snd.fst) ∧
  Wr ((outT (closeD x.fst x.snd.fst)).snd.snd.snd.fst = (outT (closeD x.fst x.snd.fst)).snd.snd.snd.fst))) (Wr (askOk (outB (closeD x.fst x.snd.fst)) (nilL Int) = Bool.true) ∧ Wr ((szB (outB (closeD x.fst x.snd.fst)) &&
  szI (nilL Int)) = Bool.true) ∧ Wr (szB (outB (closeD x.fst x.snd.fst)) = Bool.true) ∧ Wr ((0 : Int) ≤ (0 : Int)) ∧ Wr ((0 : Int) < (↑(List.length (outT (askD (outB (closeD x.fst x.snd.fst)) x.snd.fst x.snd.snd.snd.fst
  (nilL Int)) :: outT (backD (outB (closeD x.fst x.snd.fst)) x.snd.fst x.snd.snd.fst Bool.true x.snd.snd.snd.fst (nilL Int)) :: outT (closeD (outB (closeD x.fst x.snd.fst)) x.snd.fst) :: nilL (List (Int × Int × Int ×
  Unit) × List Int × Bool × Bool × Unit))) : Int)) ∧ Wr ((!!Decidable.decide ((↑(List.length (List.getD (outT (askD (outB (closeD x.fst x.snd.fst)) x.snd.fst x.snd.snd.snd.fst (nilL Int)) :: outT (backD (outB (closeD
  x.fst x.snd.fst)) x.snd.fst x.snd.snd.fst Bool.true x.snd.snd.snd.fst (nilL Int)) :: outT (closeD (outB (closeD x.fst x.snd.fst)) x.snd.fst) :: nilL (List (Int × Int × Int × Unit) × List Int × Bool × Bool × Unit))
  (Int.toNat (0 : Int)) (Ty.zero (Ty.cons (Ty.sl (Ty.cons (Ty.int IntKind.i64) (Ty.cons (Ty.int IntKind.i64) (Ty.cons (Ty.int IntKind.i64) Ty.unit)))) (Ty.cons (Ty.sl (Ty.int IntKind.i64)) (Ty.cons Ty.bool (Ty.cons
  Ty.bool Ty.unit)))))).fst) : Int) = (1 : Int))) = Bool.true → (0 : Int) ≤ (0 : Int)) ∧ Wr ((!!Decidable.decide ((↑(List.length (List.getD (outT (askD (outB (closeD x.fst x.snd.fst)) x.snd.fst x.snd.snd.snd.fst (nilL
  Int)) :: outT (backD (outB (closeD x.fst x.snd.fst)) x.snd.fst x.snd.snd.fst Bool.true x.snd.snd.snd.fst (nilL Int)) :: outT (closeD (outB (closeD x.fst x.snd.fst)) x.snd.fst) :: nilL (List (Int × Int × Int × Unit) ×
  List Int × Bool × Bool × Unit)) (Int.toNat (0 : Int)) (Ty.zero (Ty.cons (Ty.sl (Ty.cons (Ty.int IntKind.i64) (Ty.cons (Ty.int IntKind.i64) (Ty.cons (Ty.int IntKind.i64) Ty.unit)))) (Ty.cons (Ty.sl (Ty.int IntKind.i64))
  (Ty.cons Ty.bool (Ty.cons Ty.bool Ty.unit)))))).fst) : Int) = (1 : Int))) = Bool.true → (0 : Int) < (↑(List.length (List.getD (outT (askD (outB (closeD x.fst x.snd.fst)) x.snd.fst x.snd.snd.snd.fst (nilL Int)) :: outT
  (backD (outB (closeD x.fst x.snd.fst)) x.snd.fst x.snd.snd.fst Bool.true x.snd.snd.snd.fst (nilL Int)) :: outT (closeD (outB (closeD x.fst x.snd.fst)) x.snd.fst) :: nilL (List (Int × Int × Int × Unit) × List Int × Bool
  × Bool × Unit)) (Int.toNat (0 : Int)) (Ty.zero (Ty.cons (Ty.sl (Ty.cons (Ty.int IntKind.i64) (Ty.cons (Ty.int IntKind.i64) (Ty.cons (Ty.int IntKind.i64) Ty.unit)))) (Ty.cons (Ty.sl (Ty.int IntKind.i64)) (Ty.cons Ty.bool
  (Ty.cons Ty.bool Ty.unit)))))).fst) : Int)) ∧ Wr ((!!Decidable.decide ((↑(List.length (List.getD (outT (askD (outB (closeD x.fst x.snd.fst)) x.snd.fst x.snd.snd.snd.fst (nilL Int)) :: outT (backD (outB (closeD x.fst
  x.snd.fst)) x.snd.fst x.snd.snd.fst Bool.true x.snd.snd.snd.fst (nilL Int)) :: outT (closeD (outB (closeD x.fst x.snd.fst)) x.snd.fst) :: nilL (List (Int × Int × Int × Unit) × List Int × Bool × Bool × Unit)) (Int.toNat
  (0 : Int)) (Ty.zero (Ty.cons (Ty.sl (Ty.cons (Ty.int IntKind.i64) (Ty.cons (Ty.int IntKind.i64) (Ty.cons (Ty.int IntKind.i64) Ty.unit)))) (Ty.cons (Ty.sl (Ty.int IntKind.i64)) (Ty.cons Ty.bool (Ty.cons Ty.bool
  Ty.unit)))))).fst) : Int) = (1 : Int))) = Bool.true → Bool.true = Bool.true) ∧ bcase (!Decidable.decide ((↑(List.length (List.getD (outT (askD (outB (closeD x.fst x.snd.fst)) x.snd.fst x.snd.snd.snd.fst (nilL Int)) ::
  outT (backD (outB (closeD x.fst x.snd.fst)) x.snd.fst x.snd.snd.fst Bool.true x.snd.snd.snd.fst (nilL Int)) :: outT (closeD (outB (closeD x.fst x.snd.fst)) x.snd.fst) :: nilL (List (Int × Int × Int × Unit) × List Int ×
  Bool × Bool × Unit)) (Int.toNat (0 : Int)) (Ty.zero (Ty.cons (Ty.sl (Ty.cons (Ty.int IntKind.i64) (Ty.cons (Ty.int IntKind.i64) (Ty.cons (Ty.int IntKind.i64) Ty.unit)))) (Ty.cons (Ty.sl (Ty.int IntKind.i64)) (Ty.cons
  Ty.bool (Ty.cons Ty.bool Ty.unit)))))).fst) : Int) = (1 : Int)) || !Ty.eqb (Ty.cons (Ty.int IntKind.i64) (Ty.cons (Ty.int IntKind.i64) (Ty.cons (Ty.int IntKind.i64) Ty.unit))) (List.getD (List.getD (outT (askD (outB
  (closeD x.fst x.snd.fst)) x.snd.fst x.snd.snd.snd.fst (nilL Int)) :: outT (backD (outB (closeD x.fst x.snd.fst)) x.snd.fst x.snd.snd.fst Bool.true x.snd.snd.snd.fst (nilL Int)) :: outT (closeD (outB (closeD x.fst
  x.snd.fst)) x.snd.fst) :: nilL (List (Int × Int × Int × Unit) × List Int × Bool × Bool × Unit)) (Int.toNat (0 : Int)) (Ty.zero (Ty.cons (Ty.sl (Ty.cons (Ty.int IntKind.i64) (Ty.cons (Ty.int IntKind.i64) (Ty.cons (Ty.int
  IntKind.i64) Ty.unit)))) (Ty.cons (Ty.sl (Ty.int IntKind.i64)) (Ty.cons Ty.bool (Ty.cons Ty.bool Ty.unit)))))).fst (Int.toNat (0 : Int)) (Ty.zero (Ty.cons (Ty.int IntKind.i64) (Ty.cons (Ty.int IntKind.i64) (Ty.cons
  (Ty.int IntKind.i64) Ty.unit))))) (x.snd.fst, (-1 : Int), (240 : Int), ()) || !Decidable.decide ((↑(List.length (List.getD (outT (askD (outB (closeD x.fst x.snd.fst)) x.snd.fst x.snd.snd.snd.fst (nilL Int)) :: outT
  (backD (outB (closeD x.fst x.snd.fst)) x.snd.fst x.snd.snd.fst Bool.true x.snd.snd.snd.fst (nilL Int)) :: outT (closeD (outB (closeD x.fst x.snd.fst)) x.snd.fst) :: nilL (List (Int × Int × Int × Unit) × List Int × Bool
  × Bool × Unit)) (Int.toNat (0 : Int)) (Ty.zero (Ty.cons (Ty.sl (Ty.cons (Ty.int IntKind.i64) (Ty.cons (Ty.int IntKind.i64) (Ty.cons (Ty.int IntKind.i64) Ty.unit)))) (Ty.cons (Ty.sl (Ty.int IntKind.i64)) (Ty.cons Ty.bool
  (Ty.cons Ty.bool Ty.unit)))))).snd.fst) : Int) = (0 : Int)) || (List.getD (outT (askD (outB (closeD x.fst x.snd.fst)) x.snd.fst x.snd.snd.snd.fst (nilL Int)) :: outT (backD (outB (closeD x.fst x.snd.fst)) x.snd.fst
  x.snd.snd.fst Bool.true x.snd.snd.snd.fst (nilL Int)) :: outT (closeD (outB (closeD x.fst x.snd.fst)) x.snd.fst) :: nilL (List (Int × Int × Int × Unit) × List Int × Bool × Bool × Unit)) (Int.toNat (0 : Int)) (Ty.zero
  (Ty.cons (Ty.sl (Ty.cons (Ty.int IntKind.i64) (Ty.cons (Ty.int IntKind.i64) (Ty.cons (Ty.int IntKind.i64) Ty.unit)))) (Ty.cons (Ty.sl (Ty.int IntKind.i64)) (Ty.cons Ty.bool (Ty.cons Ty.bool Ty.unit)))))).snd.snd.fst ||
  (List.getD (outT (askD (outB (closeD x.fst x.snd.fst)) x.snd.fst x.snd.snd.snd.fst (nilL Int)) :: outT (backD (outB (closeD x.fst x.snd.fst)) x.snd.fst x.snd.snd.fst Bool.true x.snd.snd.snd.fst (nilL Int)) :: outT
  (closeD (outB (closeD x.fst x.snd.fst)) x.snd.fst) :: nilL (List (Int × Int × Int × Unit) × List Int × Bool × Bool × Unit)) (Int.toNat (0 : Int)) (Ty.zero (Ty.cons (Ty.sl (Ty.cons (Ty.int IntKind.i64) (Ty.cons (Ty.int
  IntKind.i64) (Ty.cons (Ty.int IntKind.i64) Ty.unit)))) (Ty.cons (Ty.sl (Ty.int IntKind.i64)) (Ty.cons Ty.bool (Ty.cons Ty.bool Ty.unit)))))).snd.snd.snd.fst) ((Bool.false, ()) = (Bool.true, ())) (Wr ((0 : Int) ≤
  IntKind.wrap IntKind.i64 ((0 : Int) + (1 : Int))) ∧ Wr (IntKind.wrap IntKind.i64 ((0 : Int) + (1 : Int)) < (↑(List.length (outT (askD (outB (closeD x.fst x.snd.fst)) x.snd.fst x.snd.snd.snd.fst (nilL Int)) :: outT
  (backD (outB (closeD x.fst x.snd.fst)) x.snd.fst x.snd.snd.fst Bool.true x.snd.snd.snd.fst (nilL Int)) :: outT (closeD (outB (closeD x.fst x.snd.fst)) x.snd.fst) :: nilL (List (Int × Int × Int × Unit) × List Int × Bool
  × Bool × Unit))) : Int)) ∧ Wr ((!!Decidable.decide ((↑(List.length (List.getD (outT (askD (outB (closeD x.fst x.snd.fst)) x.snd.fst x.snd.snd.snd.fst (nilL Int)) :: outT (backD (outB (closeD x.fst x.snd.fst)) x.snd.fst
  x.snd.snd.fst Bool.true x.snd.snd.snd.fst (nilL Int)) :: outT (closeD (outB (closeD x.fst x.snd.fst)) x.snd.fst) :: nilL (List (Int × Int × Int × Unit) × List Int × Bool × Bool × Unit)) (Int.toNat (IntKind.wrap
  IntKind.i64 ((0 : Int) + (1 : Int)))) (Ty.zero (Ty.cons (Ty.sl (Ty.cons (Ty.int IntKind.i64) (Ty.cons (Ty.int IntKind.i64) (Ty.cons (Ty.int IntKind.i64) Ty.unit)))) (Ty.cons (Ty.sl (Ty.int IntKind.i64)) (Ty.cons Ty.bool
  (Ty.cons Ty.bool Ty.unit)))))).fst) : Int) = (1 : Int))) = Bool.true → (0 : Int) ≤ (0 : Int)) ∧ Wr ((!!Decidable.decide ((↑(List.length (List.getD (outT (askD (outB (closeD x.fst x.snd.fst)) x.snd.fst x.snd.snd.snd.fst
  (nilL Int)) :: outT (backD (outB (closeD x.fst x.snd.fst)) x.snd.fst x.snd.snd.fst Bool.true x.snd.snd.snd.fst (nilL Int)) :: outT (closeD (outB (closeD x.fst x.snd.fst)) x.snd.fst) :: nilL (List (Int × Int × Int ×
  Unit) × List Int × Bool × Bool × Unit)) (Int.toNat (IntKind.wrap IntKind.i64 ((0 : Int) + (1 : Int)))) (Ty.zero (Ty.cons (Ty.sl (Ty.cons (Ty.int IntKind.i64) (Ty.cons (Ty.int IntKind.i64) (Ty.cons (Ty.int IntKind.i64)
  Ty.unit)))) (Ty.cons (Ty.sl (Ty.int IntKind.i64)) (Ty.cons Ty.bool (Ty.cons Ty.bool Ty.unit)))))).fst) : Int) = (1 : Int))) = Bool.true → (0 : Int) < (↑(List.length (List.getD (outT (askD (outB (closeD x.fst x.snd.fst))
  x.snd.fst x.snd.snd.snd.fst (nilL Int)) :: outT (backD (outB (closeD x.fst x.snd.fst)) x.snd.fst x.snd.snd.fst Bool.true x.snd.snd.snd.fst (nilL Int)) :: outT (closeD (outB (closeD x.fst x.snd.fst)) x.snd.fst) :: nilL
  (List (Int × Int × Int × Unit) × List Int × Bool × Bool × Unit)) (Int.toNat (IntKind.wrap IntKind.i64 ((0 : Int) + (1 : Int)))) (Ty.zero (Ty.cons (Ty.sl (Ty.cons (Ty.int IntKind.i64) (Ty.cons (Ty.int IntKind.i64)
  (Ty.cons (Ty.int IntKind.i64) Ty.unit)))) (Ty.cons (Ty.sl (Ty.int IntKind.i64)) (Ty.cons Ty.bool (Ty.cons Ty.bool Ty.unit)))))).fst) : Int)) ∧ Wr ((!!Decidable.decide ((↑(List.length (List.getD (outT (askD (outB (closeD
  x.fst x.snd.fst)) x.snd.fst x.snd.snd.snd.fst (nilL Int)) :: outT (backD (outB (closeD x.fst x.snd.fst)) x.snd.fst x.snd.snd.fst Bool.true x.snd.snd.snd.fst (nilL Int)) :: outT (closeD (outB (closeD x.fst x.snd.fst))
  x.snd.fst) :: nilL (List (Int × Int × Int × Unit) × List Int × Bool × Bool × Unit)) (Int.toNat (IntKind.wrap IntKind.i64 ((0 : Int) + (1 : Int)))) (Ty.zero (Ty.cons (Ty.sl (Ty.cons (Ty.int IntKind.i64) (Ty.cons (Ty.int
  IntKind.i64) (Ty.cons (Ty.int IntKind.i64) Ty.unit)))) (Ty.cons (Ty.sl (Ty.int IntKind.i64)) (Ty.cons Ty.bool (Ty.cons Ty.bool Ty.unit)))))).fst) : Int) = (1 : Int))) = Bool.true → Bool.true = Bool.true) ∧ bcase
  (!Decidable.decide ((↑(List.length (List.getD (outT (askD (outB (closeD x.fst x.snd.fst)) x.snd.fst x.snd.snd.snd.fst (nilL Int)) :: outT (backD (outB (closeD x.fst x.snd.fst)) x.snd.fst x.snd.snd.fst Bool.true
  x.snd.snd.snd.fst (nilL Int)) :: outT (closeD (outB (closeD x.fst x.snd.fst)) x.snd.fst) :: nilL (List (Int × Int × Int × Unit) × List Int × Bool × Bool × Unit)) (Int.toNat (IntKind.wrap IntKind.i64 ((0 : Int) + (1 :
  Int)))) (Ty.zero (Ty.cons (Ty.sl (Ty.cons (Ty.int IntKind.i64) (Ty.cons (Ty.int IntKind.i64) (Ty.cons (Ty.int IntKind.i64) Ty.unit)))) (Ty.cons (Ty.sl (Ty.int IntKind.i64)) (Ty.cons Ty.bool (Ty.cons Ty.bool
  Ty.unit)))))).fst) : Int) = (1 : Int)) || !Ty.eqb (Ty.cons (Ty.int IntKind.i64) (Ty.cons (Ty.int IntKind.i64) (Ty.cons (Ty.int IntKind.i64) Ty.unit))) (List.getD (List.getD (outT (askD (outB (closeD x.fst x.snd.fst))
  x.snd.fst x.snd.snd.snd.fst (nilL Int)) :: outT (backD (outB (closeD x.fst x.snd.fst)) x.snd.fst x.snd.snd.fst Bool.true x.snd.snd.snd.fst (nilL Int)) :: outT (closeD (outB (closeD x.fst x.snd.fst)) x.snd.fst) :: nilL
  (List (Int × Int × Int × Unit) × List Int × Bool × Bool × Unit)) (Int.toNat (IntKind.wrap IntKind.i64 ((0 : Int) + (1 : Int)))) (Ty.zero (Ty.cons (Ty.sl (Ty.cons (Ty.int IntKind.i64) (Ty.cons (Ty.int IntKind.i64)
  (Ty.cons (Ty.int IntKind.i64) Ty.unit)))) (Ty.cons (Ty.sl (Ty.int IntKind.i64)) (Ty.cons Ty.bool (Ty.cons Ty.bool Ty.unit)))))).fst (Int.toNat (0 : Int)) (Ty.zero (Ty.cons (Ty.int IntKind.i64) (Ty.cons (Ty.int
  IntKind.i64) (Ty.cons (Ty.int IntKind.i64) Ty.unit))))) (x.snd.fst, (-1 : Int), (240 : Int), ()) || !Decidable.decide ((↑(List.length (List.getD (outT (askD (outB (closeD x.fst x.snd.fst)) x.snd.fst x.snd.snd.snd.fst
  (nilL Int)) :: outT (backD (outB (closeD x.fst x.snd.fst)) x.snd.fst x.snd.snd.fst Bool.true x.snd.snd.snd.fst (nilL Int)) :: outT (closeD (outB (closeD x.fst x.snd.fst)) x.snd.fst) :: nilL (List (Int × Int × Int ×
  Unit) × List Int × Bool × Bool × Unit)) (Int.toNat (IntKind.wrap IntKind.i64 ((0 : Int) + (1 : Int)))) (Ty.zero (Ty.cons (Ty.sl (Ty.cons (Ty.int IntKind.i64) (Ty.cons (Ty.int IntKind.i64) (Ty.cons (Ty.int IntKind.i64)
  Ty.unit)))) (Ty.cons (Ty.sl (Ty.int IntKind.i64)) (Ty.cons Ty.bool (Ty.cons Ty.bool Ty.unit)))))).snd.fst) : Int) = (0 : Int)) || (List.getD (outT (askD (outB (closeD x.fst x.snd.fst)) x.snd.fst x.snd.snd.snd.fst (nilL
  Int)) :: outT (backD (outB (closeD x.fst x.snd.fst)) x.snd.fst x.snd.snd.fst Bool.true x.snd.snd.snd.fst (nilL Int)) :: outT (closeD (outB (closeD x.fst x.snd.fst)) x.snd.fst) :: nilL (List (Int × Int × Int × Unit) ×
  List Int × Bool × Bool × Unit)) (Int.toNat (IntKind.wrap IntKind.i64 ((0 : Int) + (1 : Int)))) (Ty.zero (Ty.cons (Ty.sl (Ty.cons (Ty.int IntKind.i64) (Ty.cons (Ty.int IntKind.i64) (Ty.cons (Ty.int IntKind.i64)
  Ty.unit)))) (Ty.cons (Ty.sl (Ty.int IntKind.i64)) (Ty.cons Ty.bool (Ty.cons Ty.bool Ty.unit)))))).snd.snd.fst || (List.getD (outT (askD (outB (closeD x.fst x.snd.fst)) x.snd.fst x.snd.snd.snd.fst (nilL Int)) :: outT
  (backD (outB (closeD x.fst x.snd.fst)) x.snd.fst x.snd.snd.fst Bool.true x.snd.snd.snd.fst (nilL Int)) :: outT (closeD (outB (closeD x.fst x.snd.fst)) x.snd.fst) :: nilL (List (Int × Int × Int × Unit) × List Int × Bool
  × Bool × Unit)) (Int.toNat (IntKind.wrap IntKind.i64 ((0 : Int) + (1 : Int)))) (Ty.zero (Ty.cons (Ty.sl (Ty.cons (Ty.int IntKind.i64) (Ty.cons (Ty.int IntKind.i64) (Ty.cons (Ty.int IntKind.i64) Ty.unit)))) (Ty.cons
  (Ty.sl (Ty.int IntKind.i64)) (Ty.cons Ty.bool (Ty.cons Ty.bool Ty.unit)))))).snd.snd.snd.fst) ((Bool.false, ()) = (Bool.true, ())) (Wr ((0 : Int) ≤ IntKind.wrap IntKind.i64 (IntKind.wrap IntKind.i64 ((0 : Int) + (1 :
  Int)) + (1 : Int))) ∧ Wr (IntKind.wrap IntKind.i64 (IntKind.wrap IntKind.i64 ((0 : Int) + (1 : Int)) + (1 : Int)) < (↑(List.length (outT (askD (outB (closeD x.fst x.snd.fst)) x.snd.fst x.snd.snd.snd.fst (nilL Int)) ::
  outT (backD (outB (closeD x.fst x.snd.fst)) x.snd.fst x.snd.snd.fst Bool.true x.snd.snd.snd.fst (nilL Int)) :: outT (closeD (outB (closeD x.fst x.snd.fst)) x.snd.fst) :: nilL (List (Int × Int × Int × Unit) × List Int ×
  Bool × Bool × Unit))) : Int)) ∧ Wr ((!!Decidable.decide ((↑(List.length (List.getD (outT (askD (outB (closeD x.fst x.snd.fst)) x.snd.fst x.snd.snd.snd.fst (nilL Int)) :: outT (backD (outB (closeD x.fst x.snd.fst))
  x.snd.fst x.snd.snd.fst Bool.true x.snd.snd.snd.fst (nilL Int)) :: outT (closeD (outB (closeD x.fst x.snd.fst)) x.snd.fst) :: nilL (List (Int × Int × Int × Unit) × List Int × Bool × Bool × Unit)) (Int.toNat
  (IntKind.wrap IntKind.i64 (IntKind.wrap IntKind.i64 ((0 : Int) + (1 : Int)) + (1 : Int)))) (Ty.zero (Ty.cons (Ty.sl (Ty.cons (Ty.int IntKind.i64) (Ty.cons (Ty.int IntKind.i64) (Ty.cons (Ty.int IntKind.i64) Ty.unit))))
  (Ty.cons (Ty.sl (Ty.int IntKind.i64)) (Ty.cons Ty.bool (Ty.cons Ty.bool Ty.unit)))))).fst) : Int) = (1 : Int))) = Bool.true → (0 : Int) ≤ (0 : Int)) ∧ Wr ((!!Decidable.decide ((↑(List.length (List.getD (outT (askD (outB
  (closeD x.fst x.snd.fst)) x.snd.fst x.snd.snd.snd.fst (nilL Int)) :: outT (backD (outB (closeD x.fst x.snd.fst)) x.snd.fst x.snd.snd.fst Bool.true x.snd.snd.snd.fst (nilL Int)) :: outT (closeD (outB (closeD x.fst
  x.snd.fst)) x.snd.fst) :: nilL (List (Int × Int × Int × Unit) × List Int × Bool × Bool × Unit)) (Int.toNat (IntKind.wrap IntKind.i64 (IntKind.wrap IntKind.i64 ((0 : Int) + (1 : Int)) + (1 : Int)))) (Ty.zero (Ty.cons
  (Ty.sl (Ty.cons (Ty.int IntKind.i64) (Ty.cons (Ty.int IntKind.i64) (Ty.cons (Ty.int IntKind.i64) Ty.unit)))) (Ty.cons (Ty.sl (Ty.int IntKind.i64)) (Ty.cons Ty.bool (Ty.cons Ty.bool Ty.unit)))))).fst) : Int) = (1 :
  Int))) = Bool.true → (0 : Int) < (↑(List.length (List.getD (outT (askD (outB (closeD x.fst x.snd.fst)) x.snd.fst x.snd.snd.snd.fst (nilL Int)) :: outT (backD (outB (closeD x.fst x.snd.fst)) x.snd.fst x.snd.snd.fst
  Bool.true x.snd.snd.snd.fst (nilL Int)) :: outT (closeD (outB (closeD x.fst x.snd.fst)) x.snd.fst) :: nilL (List (Int × Int × Int × Unit) × List Int × Bool × Bool × Unit)) (Int.toNat (IntKind.wrap IntKind.i64
  (IntKind.wrap IntKind.i64 ((0 : Int) + (1 : Int)) + (1 : Int)))) (Ty.zero (Ty.cons (Ty.sl (Ty.cons (Ty.int IntKind.i64) (Ty.cons (Ty.int IntKind.i64) (Ty.cons (Ty.int IntKind.i64) Ty.unit)))) (Ty.cons (Ty.sl (Ty.int
  IntKind.i64)) (Ty.cons Ty.bool (Ty.cons Ty.bool Ty.unit)))))).fst) : Int)) ∧ Wr ((!!Decidable.decide ((↑(List.length (List.getD (outT (askD (outB (closeD x.fst x.snd.fst)) x.snd.fst x.snd.snd.snd.fst (nilL Int)) :: outT
  (backD (outB (closeD x.fst x.snd.fst)) x.snd.fst x.snd.snd.fst Bool.true x.snd.snd.snd.fst (nilL Int)) :: outT (closeD (outB (closeD x.fst x.snd.fst)) x.snd.fst) :: nilL (List (Int × Int × Int × Unit) × List Int × Bool
  × Bool × Unit)) (Int.toNat (IntKind.wrap IntKind.i64 (IntKind.wrap IntKind.i64 ((0 : Int) + (1 : Int)) + (1 : Int)))) (Ty.zero (Ty.cons (Ty.sl (Ty.cons (Ty.int IntKind.i64) (Ty.cons (Ty.int IntKind.i64) (Ty.cons (Ty.int
  IntKind.i64) Ty.unit)))) (Ty.cons (Ty.sl (Ty.int IntKind.i64)) (Ty.cons Ty.bool (Ty.cons Ty.bool Ty.unit)))))).fst) : Int) = (1 : Int))) = Bool.true → Bool.true = Bool.true) ∧ bcase (!Decidable.decide ((↑(List.length
  (List.getD (outT (askD (outB (closeD x.fst x.snd.fst)) x.snd.fst x.snd.snd.snd.fst (nilL Int)) :: outT (backD (outB (closeD x.fst x.snd.fst)) x.snd.fst x.snd.snd.fst Bool.true x.snd.snd.snd.fst (nilL Int)) :: outT
  (closeD (outB (closeD x.fst x.snd.fst)) x.snd.fst) :: nilL (List (Int × Int × Int × Unit) × List Int × Bool × Bool × Unit)) (Int.toNat (IntKind.wrap IntKind.i64 (IntKind.wrap IntKind.i64 ((0 : Int) + (1 : Int)) + (1 :
  Int)))) (Ty.zero (Ty.cons (Ty.sl (Ty.cons (Ty.int IntKind.i64) (Ty.cons (Ty.int IntKind.i64) (Ty.cons (Ty.int IntKind.i64) Ty.unit)))) (Ty.cons (Ty.sl (Ty.int IntKind.i64)) (Ty.cons Ty.bool (Ty.cons Ty.bool
  Ty.unit)))))).fst) : Int) = (1 : Int)) || !Ty.eqb (Ty.cons (Ty.int IntKind.i64) (Ty.cons (Ty.int IntKind.i64) (Ty.cons (Ty.int IntKind.i64) Ty.unit))) (List.getD (List.getD (outT (askD (outB (closeD x.fst x.snd.fst))
  x.snd.fst x.snd.snd.snd.fst (nilL Int)) :: outT (backD (outB (closeD x.fst x.snd.fst)) x.snd.fst x.snd.snd.fst Bool.true x.snd.snd.snd.fst (nilL Int)) :: outT (closeD (outB (closeD x.fst x.snd.fst)) x.snd.fst) :: nilL
  (List (Int × Int × Int × Unit) × List Int × Bool × Bool × Unit)) (Int.toNat (IntKind.wrap IntKind.i64 (IntKind.wrap IntKind.i64 ((0 : Int) + (1 : Int)) + (1 : Int)))) (Ty.zero (Ty.cons (Ty.sl (Ty.cons (Ty.int
  IntKind.i64) (Ty.cons (Ty.int IntKind.i64) (Ty.cons (Ty.int IntKind.i64) Ty.unit)))) (Ty.cons (Ty.sl (Ty.int IntKind.i64)) (Ty.cons Ty.bool (Ty.cons Ty.bool Ty.unit)))))).fst (Int.toNat (0 : Int)) (Ty.zero (Ty.cons
  (Ty.int IntKind.i64) (Ty.cons (Ty.int IntKind.i64) (Ty.cons (Ty.int IntKind.i64) Ty.unit))))) (x.snd.fst, (-1 : Int), (240 : Int), ()) || !Decidable.decide ((↑(List.length (List.getD (outT (askD (outB (closeD x.fst
  x.snd.fst)) x.snd.fst x.snd.snd.snd.fst (nilL Int)) :: outT (backD (outB (closeD x.fst x.snd.fst)) x.snd.fst x.snd.snd.fst Bool.true x.snd.snd.snd.fst (nilL Int)) :: outT (closeD (outB (closeD x.fst x.snd.fst))
  x.snd.fst) :: nilL (List (Int × Int × Int × Unit) × List Int × Bool × Bool × Unit)) (Int.toNat (IntKind.wrap IntKind.i64 (IntKind.wrap IntKind.i64 ((0 : Int) + (1 : Int)) + (1 : Int)))) (Ty.zero (Ty.cons (Ty.sl (Ty.cons
  (Ty.int IntKind.i64) (Ty.cons (Ty.int IntKind.i64) (Ty.cons (Ty.int IntKind.i64) Ty.unit)))) (Ty.cons (Ty.sl (Ty.int IntKind.i64)) (Ty.cons Ty.bool (Ty.cons Ty.bool Ty.unit)))))).snd.fst) : Int) = (0 : Int)) ||
  (List.getD (outT (askD (outB (closeD x.fst x.snd.fst)) x.snd.fst x.snd.snd.snd.fst (nilL Int)) :: outT (backD (outB (closeD x.fst x.snd.fst)) x.snd.fst x.snd.snd.fst Bool.true x.snd.snd.snd.fst (nilL Int)) :: outT
  (closeD (outB (closeD x.fst x.snd.fst)) x.snd.fst) :: nilL (List (Int × Int × Int × Unit) × List Int × Bool × Bool × Unit)) (Int.toNat (IntKind.wrap IntKind.i64 (IntKind.wrap IntKind.i64 ((0 : Int) + (1 : Int)) + (1 :
  Int)))) (Ty.zero (Ty.cons (Ty.sl (Ty.cons (Ty.int IntKind.i64) (Ty.cons (Ty.int IntKind.i64) (Ty.cons (Ty.int IntKind.i64) Ty.unit)))) (Ty.cons (Ty.sl (Ty.int IntKind.i64)) (Ty.cons Ty.bool (Ty.cons Ty.bool
  Ty.unit)))))).snd.snd.fst || (List.getD (outT (askD (outB (closeD x.fst x.snd.fst)) x.snd.fst x.snd.snd.snd.fst (nilL Int)) :: outT (backD (outB (closeD x.fst x.snd.fst)) x.snd.fst x.snd.snd.fst Bool.true
  x.snd.snd.snd.fst (nilL Int)) :: outT (closeD (outB (closeD x.fst x.snd.fst)) x.snd.fst) :: nilL (List (Int × Int × Int × Unit) × List Int × Bool × Bool × Unit)) (Int.toNat (IntKind.wrap IntKind.i64 (IntKind.wrap
  IntKind.i64 ((0 : Int) + (1 : Int)) + (1 : Int)))) (Ty.zero (Ty.cons (Ty.sl (Ty.cons (Ty.int IntKind.i64) (Ty.cons (Ty.int IntKind.i64) (Ty.cons (Ty.int IntKind.i64) Ty.unit)))) (Ty.cons (Ty.sl (Ty.int IntKind.i64))
  (Ty.cons Ty.bool (Ty.cons Ty.bool Ty.unit)))))).snd.snd.snd.fst) ((Bool.false, ()) = (Bool.true, ())) (Wr ((szB (outB (closeD x.fst x.snd.fst)) && szI (nilL Int) && Decidable.decide (List.length (nilL (Int × (Int × Int
  × Int × Int × Int × Int × Int × Int × Unit) × Int × Unit)) = (0 : Nat))) = Bool.true) ∧ Wr (outB (askD (outB (closeD x.fst x.snd.fst)) x.snd.fst x.snd.snd.snd.fst (nilL Int)) = outB (closeD x.fst x.snd.fst)) ∧ Wr
  (Bool.true = Bool.true → outB (backD (outB (closeD x.fst x.snd.fst)) x.snd.fst x.snd.snd.fst Bool.true x.snd.snd.snd.fst (nilL Int)) = outB (closeD x.fst x.snd.fst)) ∧ Wr ((Bool.true && Bool.true) = Bool.true → outB
  (closeD (outB (closeD x.fst x.snd.fst)) x.snd.fst) = outB (closeD x.fst x.snd.fst)) ∧ Wr ((Bool.true && Bool.true && Bool.true) = Bool.true → Bool.true = Bool.true) ∧ Wr ((Bool.true && Bool.true && Bool.true && ((outB
  (toldD (outB (closeD x.fst x.snd.fst)) x.snd.snd.fst (0 : Int) x.snd.snd.snd.fst (nilL Int))).snd.snd.snd.snd.snd.snd.fst && !onF (outB (toldD (outB (closeD x.fst x.snd.fst)) x.snd.snd.fst (0 : Int) x.snd.snd.snd.fst
  (nilL Int))).snd.snd.snd.snd.fst)) = Bool.true → (outT (toldD (outB (closeD x.fst x.snd.fst)) x.snd.snd.fst (0 : Int) x.snd.snd.snd.fst (nilL Int))).snd.fst = x.snd.snd.fst :: nilL Int) ∧ Wr ((Bool.true && Bool.true &&
  Bool.true && ((outB (toldD (outB (closeD x.fst x.snd.fst)) x.snd.snd.fst (0 : Int) x.snd.snd.snd.fst (nilL Int))).snd.snd.snd.snd.snd.snd.fst && !onF (outB (toldD (outB (closeD x.fst x.snd.fst)) x.snd.snd.fst (0 : Int)
  x.snd.snd.snd.fst (nilL Int))).snd.snd.snd.snd.fst) && Bool.true && Decidable.decide ((↑(List.length (outT (toldD (outB (closeD x.fst x.snd.fst)) x.snd.snd.fst (0 : Int) x.snd.snd.snd.fst (nilL Int))).fst) : Int) = (0 :
  Int))) = Bool.true → Bool.true = Bool.true) ∧ Wr ((Bool.true && Bool.true && Bool.true && ((outB (toldD (outB (closeD x.fst x.snd.fst)) x.snd.snd.fst (0 : Int) x.snd.snd.snd.fst (nilL Int))).snd.snd.snd.snd.snd.snd.fst
  && !onF (outB (toldD (outB (closeD x.fst x.snd.fst)) x.snd.snd.fst (0 : Int) x.snd.snd.snd.fst (nilL Int))).snd.snd.snd.snd.fst) && Bool.true && Decidable.decide ((↑(List.length (outT (toldD (outB (closeD x.fst
  x.snd.fst)) x.snd.snd.fst (0 : Int) x.snd.snd.snd.fst (nilL Int))).fst) : Int) = (0 : Int)) && ((outB (closeD x.fst x.snd.fst)).snd.snd.snd.snd.snd.snd.fst && !onF (outB (closeD x.fst x.snd.fst)).snd.snd.snd.snd.fst) ==
  Decidable.decide (x.fst.snd.snd.snd.snd.fst.fst < (0 : Int))) = Bool.true → Bool.true = Bool.true) ∧ (Bool.true && Bool.true && Bool.true && ((outB (toldD (outB (closeD x.fst x.snd.fst)) x.snd.snd.fst (0 : Int)
  x.snd.snd.snd.fst (nilL Int))).snd.snd.snd.snd.snd.snd.fst && !onF (outB (toldD (outB (closeD x.fst x.snd.fst)) x.snd.snd.fst (0 : Int) x.snd.snd.snd.fst (nilL Int))).snd.snd.snd.snd.fst) && Bool.true &&
  Decidable.decide ((↑(List.length (outT (toldD (outB (closeD x.fst x.snd.fst)) x.snd.snd.fst (0 : Int) x.snd.snd.snd.fst (nilL Int))).fst) : Int) = (0 : Int)) && ((outB (closeD x.fst
  x.snd.fst)).snd.snd.snd.snd.snd.snd.fst && !onF (outB (closeD x.fst x.snd.fst)).snd.snd.snd.snd.fst) == Decidable.decide (x.fst.snd.snd.snd.snd.fst.fst < (0 : Int)) && Bool.true, ()) = (Bool.true, ())))))))) := by kernel_rfl
end Go.Proofs.Ytdkcgcgefgeooaa.Bk
set_option linter.all false
namespace Go.Proofs.Ytdkcgcgefgeooaa.Bk
open Go Go.Eng Go.RowKit
set_option maxRecDepth 100000
set_option maxHeartbeats 16000000
theorem fail_get (l : List Int) (e : Int) (r : Rp) (k : Nat) (hk : k < l.length) : (failL l e ++ [r]).getD k (Ty.zero RepT) = (l.getD k 0, -1, e, ()) := by
  have h1 : k < (failL l e).length := by rw [failL, List.length_map]; exact hk
  rw [List.getD_eq_getElem?_getD, List.getElem?_append_left h1, failL, List.getElem?_map, List.getElem?_eq_getElem hk, List.getD_eq_getElem?_getD, List.getElem?_eq_getElem hk]
  rfl
theorem fail_last (l : List Int) (e : Int) (r : Rp) : (failL l e ++ [r]).getD l.length (Ty.zero RepT) = r := by
  rw [List.getD_eq_getElem?_getD, List.getElem?_append_right (by rw [failL, List.length_map]; exact Nat.le_refl _), failL, List.length_map, Nat.sub_self]
  rfl
theorem v4 : Vc g4 300 Try.f4 cCloseL.T := by
  constructor
  rw [v4_eq]
  simp only [Wr_iff, bcase_iff, true_and, and_true, decide_eq_true_eq, decide_eq_false_iff_not, Bool.and_eq_true, Bool.and_eq_false_iff, Bool.or_eq_true, Bool.or_eq_false_iff, Bool.not_eq_true', Bool.not_eq_false', Option.map_some, Option.getD_some, Option.isSome_some, Option.isSome_map, imp_self, nilL, noneO]
  rintro ⟨⟨cf, id, le, wa, fl, sc, cl, ⟨⟩⟩, c, s, now, ⟨⟩⟩ ht
  dsimp only
  have hsz : greatB (cf, id, le, wa, fl, sc, cl, ()) = false → szB (cf, id, le, wa, fl, sc, cl, ()) = true := fun h => by
    have hg := great_f h
    dsimp only at hg
    exact (szB_iff _).2 ⟨by dsimp only; omega, by dsimp only; omega, by dsimp only; omega, by dsimp only; omega, by dsimp only; omega⟩
  refine ⟨hsz, fun _ => trivial, ?_⟩
  rintro ⟨⟨⟨⟨hgr, hck⟩, hcl⟩, hmn⟩, hmx⟩
  subst hcl
  have hg := great_f hgr
  dsimp only at hg
  have hb := hsz hgr
  obtain ⟨F, hF⟩ : ∃ F, partF fl (wa.length : Int) = F := ⟨_, rfl⟩
  have hC : closeD (cf, id, le, wa, fl, sc, false, ()) c = (mkB cf [] [] [] F sc true, failL wa 240 ++ [(c, -1, 0, ())], ownsL (cf, id, le, wa, fl, sc, false, ()), partC fl (wa.length : Int)) := by rw [← hF]; rfl
  rw [hC]
  have hOB : outB (mkB cf [] [] [] F sc true, failL wa 240 ++ [(c, -1, 0, ())], ownsL (cf, id, le, wa, fl, sc, false, ()), partC fl (wa.length : Int)) = mkB cf [] [] [] F sc true := rfl
  have hOT : outT (mkB cf [] [] [] F sc true, failL wa 240 ++ [(c, -1, 0, ())], ownsL (cf, id, le, wa, fl, sc, false, ()), partC fl (wa.length : Int)) = (failL wa 240 ++ [(c, -1, 0, ())], ownsL (cf, id, le, wa, fl, sc, false, ()), false, partC fl (wa.length : Int), ()) := rfl
  simp only [hOB, hOT]
  have hA : askD (mkB cf [] [] [] F sc true) c now [] = (mkB cf [] [] [] F sc true, [(c, -1, 240, ())], [], false) := rfl
  have hBk : backD (mkB cf [] [] [] F sc true) c s true now [] = (mkB cf [] [] [] F sc true, [(c, -1, 240, ())], [], false) := rfl
  have hCl : closeD (mkB cf [] [] [] F sc true) c = (mkB cf [] [] [] F sc true, [(c, -1, 240, ())], [], false) := rfl
  have hTd : toldD (mkB cf [] [] [] F sc true) s 0 now [] = (mkB cf [] [] [] (endF F) (noteS sc) true, [], [s], false) := rfl
  have hO1 : outB (mkB cf [] [] [] F sc true, [(c, -1, 240, ())], [], false) = mkB cf [] [] [] F sc true := rfl
  have hO2 : outT (mkB cf [] [] [] F sc true, [(c, -1, 240, ())], [], false) = ([(c, -1, 240, ())], [], false, false, ()) := rfl
  have hO3 : outB (mkB cf [] [] [] (endF F) (noteS sc) true, [], [s], false) = mkB cf [] [] [] (endF F) (noteS sc) true := rfl
  have hO4 : outT (mkB cf [] [] [] (endF F) (noteS sc) true, [], [s], false) = ([], [s], false, false, ()) := rfl
  have w1 : IntKind.wrap .i64 (0 + 1) = 1 := by decide
  have w2 : IntKind.wrap .i64 (1 + 1) = 2 := by decide
  have n1 : Int.toNat 1 = 1 := rfl
  have n2 : Int.toNat 2 = 2 := rfl
  have n0 : Int.toNat 0 = 0 := rfl
  have g0 : ∀ (a b c d : Tn), [a, b, c].getD 0 d = a := fun _ _ _ _ => rfl
  have g1 : ∀ (a b c d : Tn), [a, b, c].getD 1 d = b := fun _ _ _ _ => rfl
  have g2 : ∀ (a b c d : Tn), [a, b, c].getD 2 d = c := fun _ _ _ _ => rfl
  simp only [hA, hBk, hCl, hTd, hO1, hO2, hO3, hO4, w1, w2, n0, n1, n2, g0, g1, g2]
  have hE : ∀ r : Rp, ((Ty.int IntKind.i64).cons ((Ty.int IntKind.i64).cons ((Ty.int IntKind.i64).cons Ty.unit))).eqb r r = true := fun r => (eqb_iff RepT (by decide) r r).2 rfl
  have hl : ((failL wa 240 ++ [(c, -1, 0, ())]).length : Int) = (wa.length : Int) + 1 := by rw [List.length_append, failL, List.length_map]; rfl
  have ew : IntKind.wrap .i64 ((wa.length : Int) + 1) = (wa.length : Int) + 1 := wrap_id (by omega) (by omega)
  have hla := fail_last wa 240 (c, -1, 0, ())
  have hz : ∀ (r d : Rp), [r].getD 0 d = r := fun _ _ => rfl
  simp only [hl, ew, Int.toNat_natCast, hla, hE, hz, List.length_cons, List.length_nil, Bool.true_eq_false, Bool.false_eq_true, not_true_eq_false, or_false, false_or, false_imp_iff, true_and, and_true, imp_true_iff, implies_true, true_imp_iff]
  have hFn : F.2.2.1 ≤ 1152921504606846976 := by rw [← hF]; simp only [partF, partN]; omega
  have hs2 : szB (mkB cf [] [] [] F sc true) = true := (szB_iff _).2 ⟨by simp, by simp, by simp, by dsimp only; omega, hFn⟩
  have hsI : szI [] = true := rfl
  have hak : askOk (mkB cf [] [] [] F sc true) [] = true := by unfold askOk; rw [hs2]; rfl
  have hoF : onF F = onF fl := by rw [← hF]; rfl
  have hon : ((!onF fl) == decide (fl.1 < 0)) = true := by
    unfold onF
    by_cases h : 0 ≤ fl.1
    · rw [decide_eq_true h, decide_eq_false (by omega)]; rfl
    · rw [decide_eq_false h, decide_eq_true (by omega)]; rfl
  have hoE : onF (endF F) = false := rfl
  refine ⟨hb, by omega, by omega, hb, ⟨by omega, by omega⟩, fun k hu => ⟨fun hk => ?_, fun _ => ?_⟩⟩
  · have h0 := hu.i0
    have ewk : IntKind.wrap .i64 (k + 1) = k + 1 := wrap_id (by omega) (by omega)
    rw [fail_get wa 240 _ k.toNat (by omega), hE, ewk]
    exact ⟨h0, by omega, h0, hk, fun h => (by cases h), fun _ => ⟨⟨by omega, by omega⟩, by omega⟩⟩
  · refine ⟨hak, ⟨hs2, hsI⟩, hs2, by omega, by omega, fun _ => by omega, fun _ => by omega, fun h => absurd h (by simp), fun _ => ⟨by omega, by omega, fun _ => by omega, fun _ => by omega, fun h => absurd h (by simp), fun _ => ⟨by omega, by omega, fun _ => by omega, fun _ => by omega, fun h => absurd h (by simp), fun _ => ⟨⟨hs2, hsI⟩, ?_⟩⟩⟩⟩
    simp only [hoF, hoE, Bool.true_and, Bool.not_false, hon]
    rfl
end Go.Proofs.Ytdkcgcgefgeooaa.Bk
namespace Go.Proofs.Ytdkcgcgefgeooaa.Bk
open Go Go.Eng 
set_option maxRecDepth 100000
theorem val4 : Valid Try.prog GW 4 cCloseL := Valid.T (mkValid gws Tb.mix Tb.tab_ok Tb.eqs_ok g4 rfl (allV_cons val6 (allV_cons val8 (allV_cons val10 (allV_cons val11 (allV_cons val12 (allV_cons val13 (allV_cons val14 (allV_cons val15 (allV_cons val16 (allV_cons val17 (allV_cons val18 allV_nil))))))))))) allI_nil Try.func4 (by kernel_rfl) v4)
end Go.Proofs.Ytdkcgcgefgeooaa.Bk

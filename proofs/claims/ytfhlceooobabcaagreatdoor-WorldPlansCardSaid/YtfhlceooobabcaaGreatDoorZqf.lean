/-
  A text of mine, of several parts: Zd6Vc, ZdP10, ZdP11, ZdP12, ZdP13, ZdP14, Zd6V.
-/
import Derived.Test.YtfhlceooobabcaaGreatDoorZqa
import Derived.Test.YtfhlceooobabcaaGreatDoorZqb
import Derived.Test.YtfhlceooobabcaaGreatDoorZqc
import Derived.Test.YtfhlceooobabcaaGreatDoorZqd
import Derived.Test.YtfhlceooobabcaaGreatDoorZqe
set_option linter.all false
namespace Go.Proofs.YtfhlceooobabcaaGreatDoor.Wd
open Go Go.Eng Go.Lb Go.Ad
set_option maxRecDepth 100000
theorem v151_eq : vcFn g151 300 Tryz.f151 cLetter = ( ∀ (x : Int × Unit), Wr (Bool.true = Bool.true) → (Decidable.decide (x.fst ≥ (97 : Int)) && Decidable.decide (x.fst ≤ (122 : Int)) || Decidable.decide (x.fst ≥ (65 : Int)) && Decidable.decide (x.fst ≤ (90 : Int)) ||
  Decidable.decide (x.fst ≥ (192 : Int)) && Decidable.decide (x.fst ≤ (591 : Int)) && !Decidable.decide (x.fst = (215 : Int)) && !Decidable.decide (x.fst = (247 : Int)), ()) = (Go.Lb.letterZ x.fst, ())) := by kernel_rfl
theorem v171_eq : vcFn g171 300 Tryz.f171 cSign = ( ∀ (x : Int × Unit), Wr (Bool.true = Bool.true) → Wr (Bool.true = Bool.true) ∧ (Go.Lb.letterZ x.fst || Decidable.decide (x.fst ≥ (48 : Int)) && Decidable.decide (x.fst ≤ (57 : Int)) || Decidable.decide (x.fst = (45 :
  Int)), ()) = (Go.Lb.signZ x.fst, ())) := by kernel_rfl
theorem v150_eq : vcFn g150 300 Tryz.f150 cOne = ( ∀ (x : ByteArray × Unit), Wr ((szOk x.fst && Decidable.decide ((0 : Nat) < ByteArray.size x.fst)) = Bool.true) → Wr ((0 : Int) ≤ (0 : Int)) ∧ Wr ((0 : Int) < (↑(ByteArray.size x.fst) : Int)) ∧ bcase (Decidable.decide
  (byteAt x.fst (Int.toNat (0 : Int)) < (128 : Int))) ((IntKind.wrap IntKind.i32 (byteAt x.fst (Int.toNat (0 : Int))), (1 : Int), ()) = (Go.Lb.one1 x.fst, Go.Lb.one2 x.fst, ())) (bcase (Decidable.decide (byteAt x.fst
  (Int.toNat (0 : Int)) ≥ (194 : Int)) && Decidable.decide (byteAt x.fst (Int.toNat (0 : Int)) ≤ (223 : Int))) (bcase (Decidable.decide ((↑(ByteArray.size x.fst) : Int) < (2 : Int))) (((0 : Int), (0 : Int), ()) =
  (Go.Lb.one1 x.fst, Go.Lb.one2 x.fst, ())) (Wr ((0 : Int) ≤ (1 : Int)) ∧ Wr ((1 : Int) < (↑(ByteArray.size x.fst) : Int)) ∧ bcase (!Decidable.decide (andI IntKind.u8 (byteAt x.fst (Int.toNat (1 : Int))) (192 : Int) =
  (128 : Int))) (((0 : Int), (0 : Int), ()) = (Go.Lb.one1 x.fst, Go.Lb.one2 x.fst, ())) (Wr ((0 : Int) ≤ (1 : Int)) ∧ Wr ((1 : Int) < (↑(ByteArray.size x.fst) : Int)) ∧ bcase (Decidable.decide (IntKind.wrap IntKind.i32
  (IntKind.wrap IntKind.i32 (IntKind.wrap IntKind.i32 (andI IntKind.u8 (byteAt x.fst (Int.toNat (0 : Int))) (31 : Int)) * (64 : Int)) + IntKind.wrap IntKind.i32 (andI IntKind.u8 (byteAt x.fst (Int.toNat (1 : Int))) (63 :
  Int))) < (128 : Int)) || Decidable.decide (IntKind.wrap IntKind.i32 (IntKind.wrap IntKind.i32 (IntKind.wrap IntKind.i32 (andI IntKind.u8 (byteAt x.fst (Int.toNat (0 : Int))) (31 : Int)) * (64 : Int)) + IntKind.wrap
  IntKind.i32 (andI IntKind.u8 (byteAt x.fst (Int.toNat (1 : Int))) (63 : Int))) ≥ (55296 : Int)) && Decidable.decide (IntKind.wrap IntKind.i32 (IntKind.wrap IntKind.i32 (IntKind.wrap IntKind.i32 (andI IntKind.u8 (byteAt
  x.fst (Int.toNat (0 : Int))) (31 : Int)) * (64 : Int)) + IntKind.wrap IntKind.i32 (andI IntKind.u8 (byteAt x.fst (Int.toNat (1 : Int))) (63 : Int))) ≤ (57343 : Int)) || Decidable.decide (IntKind.wrap IntKind.i32
  (IntKind.wrap IntKind.i32 (IntKind.wrap IntKind.i32 (andI IntKind.u8 (byteAt x.fst (Int.toNat (0 : Int))) (31 : Int)) * (64 : Int)) + IntKind.wrap IntKind.i32 (andI IntKind.u8 (byteAt x.fst (Int.toNat (1 : Int))) (63 :
  Int))) > (1114111 : Int))) (((0 : Int), (0 : Int), ()) = (Go.Lb.one1 x.fst, Go.Lb.one2 x.fst, ())) ((IntKind.wrap IntKind.i32 (IntKind.wrap IntKind.i32 (IntKind.wrap IntKind.i32 (andI IntKind.u8 (byteAt x.fst (Int.toNat
  (0 : Int))) (31 : Int)) * (64 : Int)) + IntKind.wrap IntKind.i32 (andI IntKind.u8 (byteAt x.fst (Int.toNat (1 : Int))) (63 : Int))), (2 : Int), ()) = (Go.Lb.one1 x.fst, Go.Lb.one2 x.fst, ()))))) (bcase (Decidable.decide
  (byteAt x.fst (Int.toNat (0 : Int)) ≥ (224 : Int)) && Decidable.decide (byteAt x.fst (Int.toNat (0 : Int)) ≤ (239 : Int))) (bcase (Decidable.decide ((↑(ByteArray.size x.fst) : Int) < (3 : Int))) (((0 : Int), (0 : Int),
  ()) = (Go.Lb.one1 x.fst, Go.Lb.one2 x.fst, ())) (Wr ((0 : Int) ≤ (1 : Int)) ∧ Wr ((1 : Int) < (↑(ByteArray.size x.fst) : Int)) ∧ bcase (!Decidable.decide (andI IntKind.u8 (byteAt x.fst (Int.toNat (1 : Int))) (192 : Int)
  = (128 : Int))) (((0 : Int), (0 : Int), ()) = (Go.Lb.one1 x.fst, Go.Lb.one2 x.fst, ())) (Wr ((0 : Int) ≤ (1 : Int)) ∧ Wr ((1 : Int) < (↑(ByteArray.size x.fst) : Int)) ∧ Wr ((0 : Int) ≤ IntKind.wrap IntKind.i64 ((1 :
  Int) + (1 : Int))) ∧ Wr (IntKind.wrap IntKind.i64 ((1 : Int) + (1 : Int)) < (↑(ByteArray.size x.fst) : Int)) ∧ bcase (!Decidable.decide (andI IntKind.u8 (byteAt x.fst (Int.toNat (IntKind.wrap IntKind.i64 ((1 : Int) + (1
  : Int))))) (192 : Int) = (128 : Int))) (((0 : Int), (0 : Int), ()) = (Go.Lb.one1 x.fst, Go.Lb.one2 x.fst, ())) (Wr ((0 : Int) ≤ IntKind.wrap IntKind.i64 ((1 : Int) + (1 : Int))) ∧ Wr (IntKind.wrap IntKind.i64 ((1 : Int)
  + (1 : Int)) < (↑(ByteArray.size x.fst) : Int)) ∧ bcase (Decidable.decide (IntKind.wrap IntKind.i32 (IntKind.wrap IntKind.i32 (IntKind.wrap IntKind.i32 (IntKind.wrap IntKind.i32 (IntKind.wrap IntKind.i32 (andI
  IntKind.u8 (byteAt x.fst (Int.toNat (0 : Int))) (15 : Int)) * (64 : Int)) + IntKind.wrap IntKind.i32 (andI IntKind.u8 (byteAt x.fst (Int.toNat (1 : Int))) (63 : Int))) * (64 : Int)) + IntKind.wrap IntKind.i32 (andI
  IntKind.u8 (byteAt x.fst (Int.toNat (IntKind.wrap IntKind.i64 ((1 : Int) + (1 : Int))))) (63 : Int))) < (2048 : Int)) || Decidable.decide (IntKind.wrap IntKind.i32 (IntKind.wrap IntKind.i32 (IntKind.wrap IntKind.i32
  (IntKind.wrap IntKind.i32 (IntKind.wrap IntKind.i32 (andI IntKind.u8 (byteAt x.fst (Int.toNat (0 : Int))) (15 : Int)) * (64 : Int)) + IntKind.wrap IntKind.i32 (andI IntKind.u8 (byteAt x.fst (Int.toNat (1 : Int))) (63 :
  Int))) * (64 : Int)) + IntKind.wrap IntKind.i32 (andI IntKind.u8 (byteAt x.fst (Int.toNat (IntKind.wrap IntKind.i64 ((1 : Int) + (1 : Int))))) (63 : Int))) ≥ (55296 : Int)) && Decidable.decide (IntKind.wrap IntKind.i32
  (IntKind.wrap IntKind.i32 (IntKind.wrap IntKind.i32 (IntKind.wrap IntKind.i32 (IntKind.wrap IntKind.i32 (andI IntKind.u8 (byteAt x.fst (Int.toNat (0 : Int))) (15 : Int)) * (64 : Int)) + IntKind.wrap IntKind.i32 (andI
  IntKind.u8 (byteAt x.fst (Int.toNat (1 : Int))) (63 : Int))) * (64 : Int)) + IntKind.wrap IntKind.i32 (andI IntKind.u8 (byteAt x.fst (Int.toNat (IntKind.wrap IntKind.i64 ((1 : Int) + (1 : Int))))) (63 : Int))) ≤ (57343
  : Int)) || Decidable.decide (IntKind.wrap IntKind.i32 (IntKind.wrap IntKind.i32 (IntKind.wrap IntKind.i32 (IntKind.wrap IntKind.i32 (IntKind.wrap IntKind.i32 (andI IntKind.u8 (byteAt x.fst (Int.toNat (0 : Int))) (15 :
  Int)) * (64 : Int)) + IntKind.wrap IntKind.i32 (andI IntKind.u8 (byteAt x.fst (Int.toNat (1 : Int))) (63 : Int))) * (64 : Int)) + IntKind.wrap IntKind.i32 (andI IntKind.u8 (byteAt x.fst (Int.toNat (IntKind.wrap
  IntKind.i64 ((1 : Int) + (1 : Int))))) (63 : Int))) > (1114111 : Int))) (((0 : Int), (0 : Int), ()) = (Go.Lb.one1 x.fst, Go.Lb.one2 x.fst, ())) ((IntKind.wrap IntKind.i32 (IntKind.wrap IntKind.i32 (IntKind.wrap
  IntKind.i32 (IntKind.wrap IntKind.i32 (IntKind.wrap IntKind.i32 (andI IntKind.u8 (byteAt x.fst (Int.toNat (0 : Int))) (15 : Int)) * (64 : Int)) + IntKind.wrap IntKind.i32 (andI IntKind.u8 (byteAt x.fst (Int.toNat (1 :
  Int))) (63 : Int))) * (64 : Int)) + IntKind.wrap IntKind.i32 (andI IntKind.u8 (byteAt x.fst (Int.toNat (IntKind.wrap IntKind.i64 ((1 : Int) + (1 : Int))))) (63 : Int))), (3 : Int), ()) = (Go.Lb.one1 x.fst, Go.Lb.one2
  x.fst, ())))))) (bcase (Decidable.decide (byteAt x.fst (Int.toNat (0 : Int)) ≥ (240 : Int)) && Decidable.decide (byteAt x.fst (Int.toNat (0 : Int)) ≤ (244 : Int))) (bcase (Decidable.decide ((↑(ByteArray.size x.fst) :
  Int) < (4 : Int))) (((0 : Int), (0 : Int), ()) = (Go.Lb.one1 x.fst, Go.Lb.one2 x.fst, ())) (Wr ((0 : Int) ≤ (1 : Int)) ∧ Wr ((1 : Int) < (↑(ByteArray.size x.fst) : Int)) ∧ bcase (!Decidable.decide (andI IntKind.u8
  (byteAt x.fst (Int.toNat (1 : Int))) (192 : Int) = (128 : Int))) (((0 : Int), (0 : Int), ()) = (Go.Lb.one1 x.fst, Go.Lb.one2 x.fst, ())) (Wr ((0 : Int) ≤ (1 : Int)) ∧ Wr ((1 : Int) < (↑(ByteArray.size x.fst) : Int)) ∧
  Wr ((0 : Int) ≤ IntKind.wrap IntKind.i64 ((1 : Int) + (1 : Int))) ∧ Wr (IntKind.wrap IntKind.i64 ((1 : Int) + (1 : Int)) < (↑(ByteArray.size x.fst) : Int)) ∧ bcase (!Decidable.decide (andI IntKind.u8 (byteAt x.fst
  (Int.toNat (IntKind.wrap IntKind.i64 ((1 : Int) + (1 : Int))))) (192 : Int) = (128 : Int))) (((0 : Int), (0 : Int), ()) = (Go.Lb.one1 x.fst, Go.Lb.one2 x.fst, ())) (Wr ((0 : Int) ≤ IntKind.wrap IntKind.i64 ((1 : Int) +
  (1 : Int))) ∧ Wr (IntKind.wrap IntKind.i64 ((1 : Int) + (1 : Int)) < (↑(ByteArray.size x.fst) : Int)) ∧ Wr ((0 : Int) ≤ IntKind.wrap IntKind.i64 (IntKind.wrap IntKind.i64 ((1 : Int) + (1 : Int)) + (1 : Int))) ∧ Wr
  (IntKind.wrap IntKind.i64 (IntKind.wrap IntKind.i64 ((1 : Int) + (1 : Int)) + (1 : Int)) < (↑(ByteArray.size x.fst) : Int)) ∧ bcase (!Decidable.decide (andI IntKind.u8 (byteAt x.fst (Int.toNat (IntKind.wrap IntKind.i64
  (IntKind.wrap IntKind.i64 ((1 : Int) + (1 : Int)) + (1 : Int))))) (192 : Int) = (128 : Int))) (((0 : Int), (0 : Int), ()) = (Go.Lb.one1 x.fst, Go.Lb.one2 x.fst, ())) (Wr ((0 : Int) ≤ IntKind.wrap IntKind.i64
  (IntKind.wrap IntKind.i64 ((1 : Int) + (1 : Int)) + (1 : Int))) ∧ Wr (IntKind.wrap IntKind.i64 (IntKind.wrap IntKind.i64 ((1 : Int) + (1 : Int)) + (1 : Int)) < (↑(ByteArray.size x.fst) : Int)) ∧ bcase (Decidable.decide
  (IntKind.wrap IntKind.i32 (IntKind.wrap IntKind.i32 (IntKind.wrap IntKind.i32 (IntKind.wrap IntKind.i32 (IntKind.wrap IntKind.i32 (IntKind.wrap IntKind.i32 (IntKind.wrap IntKind.i32 (andI IntKind.u8 (byteAt x.fst
  (Int.toNat (0 : Int))) (7 : Int)) * (64 : Int)) + IntKind.wrap IntKind.i32 (andI IntKind.u8 (byteAt x.fst (Int.toNat (1 : Int))) (63 : Int))) * (64 : Int)) + IntKind.wrap IntKind.i32 (andI IntKind.u8 (byteAt x.fst
  (Int.toNat (IntKind.wrap IntKind.i64 ((1 : Int) + (1 : Int))))) (63 : Int))) * (64 : Int)) + IntKind.wrap IntKind.i32 (andI IntKind.u8 (byteAt x.fst (Int.toNat (IntKind.wrap IntKind.i64 (IntKind.wrap IntKind.i64 ((1 :
  Int) + (1 : Int)) + (1 : Int))))) (63 : Int))) < (65536 : Int)) || Decidable.decide (IntKind.wrap IntKind.i32 (IntKind.wrap IntKind.i32 (IntKind.wrap IntKind.i32 (IntKind.wrap IntKind.i32 (IntKind.wrap IntKind.i32
  (IntKind.wrap IntKind.i32 (IntKind.wrap IntKind.i32 (andI IntKind.u8 (byteAt x.fst (Int.toNat (0 : Int))) (7 : Int)) * (64 : Int)) + IntKind.wrap IntKind.i32 (andI IntKind.u8 (byteAt x.fst (Int.toNat (1 : Int))) (63 :
  Int))) * (64 : Int)) + IntKind.wrap IntKind.i32 (andI IntKind.u8 (byteAt x.fst (Int.toNat (IntKind.wrap IntKind.i64 ((1 : Int) + (1 : Int))))) (63 : Int))) * (64 : Int)) + IntKind.wrap IntKind.i32 (andI IntKind.u8
  (byteAt x.fst (Int.toNat (IntKind.wrap IntKind.i64 (IntKind.wrap IntKind.i64 ((1 : Int) + (1 : Int)) + (1 : Int))))) (63 : Int))) ≥ (55296 : Int)) && Decidable.decide (IntKind.wrap IntKind.i32 (IntKind.wrap IntKind.i32
  (IntKind.wrap IntKind.i32 (IntKind.wrap IntKind.i32 (IntKind.wrap IntKind.i32 (IntKind.wrap IntKind.i32 (IntKind.wrap IntKind.i32 (andI IntKind.u8 (byteAt x.fst (Int.toNat (0 : Int))) (7 : Int)) * (64 : Int)) +
  IntKind.wrap IntKind.i32 (andI IntKind.u8 (byteAt x.fst (Int.toNat (1 : Int))) (63 : Int))) * (64 : Int)) + IntKind.wrap IntKind.i32 (andI IntKind.u8 (byteAt x.fst (Int.toNat (IntKind.wrap IntKind.i64 ((1 : Int) + (1 :
  Int))))) (63 : Int))) * (64 : Int)) + IntKind.wrap IntKind.i32 (andI IntKind.u8 (byteAt x.fst (Int.toNat (IntKind.wrap IntKind.i64 (IntKind.wrap IntKind.i64 ((1 : Int) + (1 : Int)) + (1 : Int))))) (63 : Int))) ≤ (57343
  : Int)) || Decidable.decide (IntKind.wrap IntKind.i32 (IntKind.wrap IntKind.i32 (IntKind.wrap IntKind.i32 (IntKind.wrap IntKind.i32 (IntKind.wrap IntKind.i32 (IntKind.wrap IntKind.i32 (IntKind.wrap IntKind.i32 (andI
  IntKind.u8 (byteAt x.fst (Int.toNat (0 : Int))) (7 : Int)) * (64 : Int)) + IntKind.wrap IntKind.i32 (andI IntKind.u8 (byteAt x.fst (Int.toNat (1 : Int))) (63 : Int))) * (64 : Int)) + IntKind.wrap IntKind.i32 (andI
  IntKind.u8 (byteAt x.fst (Int.toNat (IntKind.wrap IntKind.i64 ((1 : Int) + (1 : Int))))) (63 : Int))) * (64 : Int)) + IntKind.wrap IntKind.i32 (andI IntKind.u8 (byteAt x.fst (Int.toNat (IntKind.wrap IntKind.i64
  (IntKind.wrap IntKind.i64 ((1 : Int) + (1 : Int)) + (1 : Int))))) (63 : Int))) > (1114111 : Int))) (((0 : Int), (0 : Int), ()) = (Go.Lb.one1 x.fst, Go.Lb.one2 x.fst, ())) ((IntKind.wrap IntKind.i32 (IntKind.wrap
  IntKind.i32 (IntKind.wrap IntKind.i32 (IntKind.wrap IntKind.i32 (IntKind.wrap IntKind.i32 (IntKind.wrap IntKind.i32 (IntKind.wrap IntKind.i32 (andI IntKind.u8 (byteAt x.fst (Int.toNat (0 : Int))) (7 : Int)) * (64 :
  Int)) + IntKind.wrap IntKind.i32 (andI IntKind.u8 (byteAt x.fst (Int.toNat (1 : Int))) (63 : Int))) * (64 : Int)) + IntKind.wrap IntKind.i32 (andI IntKind.u8 (byteAt x.fst (Int.toNat (IntKind.wrap IntKind.i64 ((1 : Int)
  + (1 : Int))))) (63 : Int))) * (64 : Int)) + IntKind.wrap IntKind.i32 (andI IntKind.u8 (byteAt x.fst (Int.toNat (IntKind.wrap IntKind.i64 (IntKind.wrap IntKind.i64 ((1 : Int) + (1 : Int)) + (1 : Int))))) (63 : Int))),
  (4 : Int), ()) = (Go.Lb.one1 x.fst, Go.Lb.one2 x.fst, ()))))))) (((0 : Int), (0 : Int), ()) = (Go.Lb.one1 x.fst, Go.Lb.one2 x.fst, ())))))) := by kernel_rfl
theorem v149_eq : vcFn g149 300 Tryz.f149 cValid1 = ( ∀ (x : ByteArray × Unit), Wr (szOk x.fst = Bool.true) → bcase (Decidable.decide ((↑(ByteArray.size x.fst) : Int) < (1 : Int)) || Decidable.decide ((↑(ByteArray.size x.fst) : Int) > (64 : Int))) ((Bool.false, ()) =
  (Go.Lb.validB x.fst, ())) ((Wr (ValidI x.fst Bool.true (46 : Int) (0 : Int)) ∧ Wr (Bool.true = Bool.true) ∧ Wr ((46 : Int) = (46 : Int)) ∧ Wr ((0 : Int) = (0 : Int)) ∧ Wr (x.fst = x.fst)) ∧ ∀ (x_1 : Bool × Int × Int),
  Wr (ValidI x.fst x_1.fst x_1.snd.fst x_1.snd.snd) → bcase (Decidable.decide (x_1.snd.snd < (↑(ByteArray.size x.fst) : Int))) (Wr ((0 : Int) ≤ x_1.snd.snd) ∧ Wr (x_1.snd.snd ≤ (↑(ByteArray.size x.fst) : Int)) ∧ Wr
  ((↑(ByteArray.size x.fst) : Int) ≤ (↑(ByteArray.size x.fst) : Int)) ∧ Wr ((szOk (subS x.fst (Int.toNat x_1.snd.snd) (Int.toNat (↑(ByteArray.size x.fst) : Int))) && Decidable.decide ((0 : Nat) < ByteArray.size (subS
  x.fst (Int.toNat x_1.snd.snd) (Int.toNat (↑(ByteArray.size x.fst) : Int))))) = Bool.true) ∧ bcase (Decidable.decide (Go.Lb.one2 (subS x.fst (Int.toNat x_1.snd.snd) (Int.toNat (↑(ByteArray.size x.fst) : Int))) = (0 :
  Int))) ((Bool.false, ()) = (Go.Lb.validB x.fst, ())) (bcase (Decidable.decide (Go.Lb.one1 (subS x.fst (Int.toNat x_1.snd.snd) (Int.toNat (↑(ByteArray.size x.fst) : Int))) = (46 : Int))) (bcase (x_1.fst ||
  Decidable.decide (x_1.snd.fst = (45 : Int))) ((Bool.false, ()) = (Go.Lb.validB x.fst, ())) (Wr (ValidI x.fst Bool.true (Go.Lb.one1 (subS x.fst (Int.toNat x_1.snd.snd) (Int.toNat (↑(ByteArray.size x.fst) : Int))))
  (IntKind.wrap IntKind.i64 (x_1.snd.snd + Go.Lb.one2 (subS x.fst (Int.toNat x_1.snd.snd) (Int.toNat (↑(ByteArray.size x.fst) : Int)))))) ∧ Wr (ByteArray.size x.fst - Int.toNat (IntKind.wrap IntKind.i64 (x_1.snd.snd +
  Go.Lb.one2 (subS x.fst (Int.toNat x_1.snd.snd) (Int.toNat (↑(ByteArray.size x.fst) : Int))))) < ByteArray.size x.fst - Int.toNat x_1.snd.snd) ∧ Wr (Bool.true = Bool.true) ∧ Wr (Go.Lb.one1 (subS x.fst (Int.toNat
  x_1.snd.snd) (Int.toNat (↑(ByteArray.size x.fst) : Int))) = Go.Lb.one1 (subS x.fst (Int.toNat x_1.snd.snd) (Int.toNat (↑(ByteArray.size x.fst) : Int)))) ∧ Wr (IntKind.wrap IntKind.i64 (x_1.snd.snd + Go.Lb.one2 (subS
  x.fst (Int.toNat x_1.snd.snd) (Int.toNat (↑(ByteArray.size x.fst) : Int)))) = IntKind.wrap IntKind.i64 (x_1.snd.snd + Go.Lb.one2 (subS x.fst (Int.toNat x_1.snd.snd) (Int.toNat (↑(ByteArray.size x.fst) : Int))))) ∧ Wr
  (x.fst = x.fst))) (Wr (Bool.true = Bool.true) ∧ bcase (!Go.Lb.signZ (Go.Lb.one1 (subS x.fst (Int.toNat x_1.snd.snd) (Int.toNat (↑(ByteArray.size x.fst) : Int)))) || x_1.fst && Decidable.decide (Go.Lb.one1 (subS x.fst
  (Int.toNat x_1.snd.snd) (Int.toNat (↑(ByteArray.size x.fst) : Int))) = (45 : Int))) ((Bool.false, ()) = (Go.Lb.validB x.fst, ())) (Wr (ValidI x.fst Bool.false (Go.Lb.one1 (subS x.fst (Int.toNat x_1.snd.snd) (Int.toNat
  (↑(ByteArray.size x.fst) : Int)))) (IntKind.wrap IntKind.i64 (x_1.snd.snd + Go.Lb.one2 (subS x.fst (Int.toNat x_1.snd.snd) (Int.toNat (↑(ByteArray.size x.fst) : Int)))))) ∧ Wr (ByteArray.size x.fst - Int.toNat
  (IntKind.wrap IntKind.i64 (x_1.snd.snd + Go.Lb.one2 (subS x.fst (Int.toNat x_1.snd.snd) (Int.toNat (↑(ByteArray.size x.fst) : Int))))) < ByteArray.size x.fst - Int.toNat x_1.snd.snd) ∧ Wr (Bool.false = Bool.false) ∧ Wr
  (Go.Lb.one1 (subS x.fst (Int.toNat x_1.snd.snd) (Int.toNat (↑(ByteArray.size x.fst) : Int))) = Go.Lb.one1 (subS x.fst (Int.toNat x_1.snd.snd) (Int.toNat (↑(ByteArray.size x.fst) : Int)))) ∧ Wr (IntKind.wrap IntKind.i64
  (x_1.snd.snd + Go.Lb.one2 (subS x.fst (Int.toNat x_1.snd.snd) (Int.toNat (↑(ByteArray.size x.fst) : Int)))) = IntKind.wrap IntKind.i64 (x_1.snd.snd + Go.Lb.one2 (subS x.fst (Int.toNat x_1.snd.snd) (Int.toNat
  (↑(ByteArray.size x.fst) : Int))))) ∧ Wr (x.fst = x.fst))))) ((!x_1.fst && !Decidable.decide (x_1.snd.fst = (45 : Int)), ()) = (Go.Lb.validB x.fst, ())))) := by kernel_rfl
theorem v128_eq : vcFn g128 300 Tryz.f128 cFoldR = ( ∀ (x : ByteArray × Unit), Wr (szOk x.fst = Bool.true) → Wr (szOk x.fst = Bool.true) ∧ bcase (!Go.Lb.validB x.fst) ((ByteArray.mk (List.toArray (nilL UInt8)), (10 : Int), ()) = (Go.Lb.fold1 x.fst, Go.Lb.fold2 x.fst, ()))
  ((Wr (FoldI x.fst (nilL Int) (0 : Int)) ∧ Wr ((0 : Int) = (0 : Int)) ∧ Wr (x.fst = x.fst) ∧ Wr (nilL Int = nilL Int)) ∧ ∀ (x_1 : List Int × Int), Wr (FoldI x.fst x_1.fst x_1.snd) → bcase (Decidable.decide (x_1.snd <
  (↑(ByteArray.size x.fst) : Int))) (Wr ((0 : Int) ≤ x_1.snd) ∧ Wr (x_1.snd ≤ (↑(ByteArray.size x.fst) : Int)) ∧ Wr ((↑(ByteArray.size x.fst) : Int) ≤ (↑(ByteArray.size x.fst) : Int)) ∧ Wr ((szOk (subS x.fst (Int.toNat
  x_1.snd) (Int.toNat (↑(ByteArray.size x.fst) : Int))) && Decidable.decide ((0 : Nat) < ByteArray.size (subS x.fst (Int.toNat x_1.snd) (Int.toNat (↑(ByteArray.size x.fst) : Int))))) = Bool.true) ∧ bcase (Decidable.decide
  (Go.Lb.one2 (subS x.fst (Int.toNat x_1.snd) (Int.toNat (↑(ByteArray.size x.fst) : Int))) = (1 : Int)) && Decidable.decide (Go.Lb.one1 (subS x.fst (Int.toNat x_1.snd) (Int.toNat (↑(ByteArray.size x.fst) : Int))) ≥ (65 :
  Int)) && Decidable.decide (Go.Lb.one1 (subS x.fst (Int.toNat x_1.snd) (Int.toNat (↑(ByteArray.size x.fst) : Int))) ≤ (90 : Int))) (Wr ((List.length x_1.fst + List.length (IntKind.wrap IntKind.u8 (IntKind.wrap
  IntKind.i32 (Go.Lb.one1 (subS x.fst (Int.toNat x_1.snd) (Int.toNat (↑(ByteArray.size x.fst) : Int))) + (32 : Int))) :: nilL Int)) * (1 : Nat) ≤ (140737488355328 : Nat)) ∧ Wr (FoldI x.fst (x_1.fst ++ IntKind.wrap
  IntKind.u8 (IntKind.wrap IntKind.i32 (Go.Lb.one1 (subS x.fst (Int.toNat x_1.snd) (Int.toNat (↑(ByteArray.size x.fst) : Int))) + (32 : Int))) :: nilL Int) (IntKind.wrap IntKind.i64 (x_1.snd + Go.Lb.one2 (subS x.fst
  (Int.toNat x_1.snd) (Int.toNat (↑(ByteArray.size x.fst) : Int)))))) ∧ Wr (ByteArray.size x.fst - Int.toNat (IntKind.wrap IntKind.i64 (x_1.snd + Go.Lb.one2 (subS x.fst (Int.toNat x_1.snd) (Int.toNat (↑(ByteArray.size
  x.fst) : Int))))) < ByteArray.size x.fst - Int.toNat x_1.snd) ∧ Wr (IntKind.wrap IntKind.i64 (x_1.snd + Go.Lb.one2 (subS x.fst (Int.toNat x_1.snd) (Int.toNat (↑(ByteArray.size x.fst) : Int)))) = IntKind.wrap IntKind.i64
  (x_1.snd + Go.Lb.one2 (subS x.fst (Int.toNat x_1.snd) (Int.toNat (↑(ByteArray.size x.fst) : Int))))) ∧ Wr (x.fst = x.fst) ∧ Wr (x_1.fst ++ IntKind.wrap IntKind.u8 (IntKind.wrap IntKind.i32 (Go.Lb.one1 (subS x.fst
  (Int.toNat x_1.snd) (Int.toNat (↑(ByteArray.size x.fst) : Int))) + (32 : Int))) :: nilL Int = x_1.fst ++ IntKind.wrap IntKind.u8 (IntKind.wrap IntKind.i32 (Go.Lb.one1 (subS x.fst (Int.toNat x_1.snd) (Int.toNat
  (↑(ByteArray.size x.fst) : Int))) + (32 : Int))) :: nilL Int)) (Wr ((Decidable.decide (Go.Lb.one2 (subS x.fst (Int.toNat x_1.snd) (Int.toNat (↑(ByteArray.size x.fst) : Int))) = (2 : Int)) && Decidable.decide (Go.Lb.one1
  (subS x.fst (Int.toNat x_1.snd) (Int.toNat (↑(ByteArray.size x.fst) : Int))) ≥ (192 : Int)) && Decidable.decide (Go.Lb.one1 (subS x.fst (Int.toNat x_1.snd) (Int.toNat (↑(ByteArray.size x.fst) : Int))) ≤ (222 : Int))) =
  Bool.true → Bool.true = Bool.true) ∧ bcase (Decidable.decide (Go.Lb.one2 (subS x.fst (Int.toNat x_1.snd) (Int.toNat (↑(ByteArray.size x.fst) : Int))) = (2 : Int)) && Decidable.decide (Go.Lb.one1 (subS x.fst (Int.toNat
  x_1.snd) (Int.toNat (↑(ByteArray.size x.fst) : Int))) ≥ (192 : Int)) && Decidable.decide (Go.Lb.one1 (subS x.fst (Int.toNat x_1.snd) (Int.toNat (↑(ByteArray.size x.fst) : Int))) ≤ (222 : Int)) && Go.Lb.letterZ
  (Go.Lb.one1 (subS x.fst (Int.toNat x_1.snd) (Int.toNat (↑(ByteArray.size x.fst) : Int))))) (Wr ((0 : Int) ≤ (6 : Int)) ∧ Wr ((List.length x_1.fst + List.length (orI IntKind.u8 (192 : Int) (IntKind.wrap IntKind.u8
  (Int.fdiv (IntKind.wrap IntKind.i32 (Go.Lb.one1 (subS x.fst (Int.toNat x_1.snd) (Int.toNat (↑(ByteArray.size x.fst) : Int))) + (32 : Int))) ((2 : Int) ^ Min.min (Int.toNat (6 : Int)) (IntKind.bits IntKind.i32)))) :: orI
  IntKind.u8 (128 : Int) (IntKind.wrap IntKind.u8 (andI IntKind.i32 (IntKind.wrap IntKind.i32 (Go.Lb.one1 (subS x.fst (Int.toNat x_1.snd) (Int.toNat (↑(ByteArray.size x.fst) : Int))) + (32 : Int))) (63 : Int))) :: nilL
  Int)) * (1 : Nat) ≤ (140737488355328 : Nat)) ∧ Wr (FoldI x.fst (x_1.fst ++ orI IntKind.u8 (192 : Int) (IntKind.wrap IntKind.u8 (Int.fdiv (IntKind.wrap IntKind.i32 (Go.Lb.one1 (subS x.fst (Int.toNat x_1.snd) (Int.toNat
  (↑(ByteArray.size x.fst) : Int))) + (32 : Int))) ((2 : Int) ^ Min.min (Int.toNat (6 : Int)) (IntKind.bits IntKind.i32)))) :: orI IntKind.u8 (128 : Int) (IntKind.wrap IntKind.u8 (andI IntKind.i32 (IntKind.wrap
  IntKind.i32 (Go.Lb.one1 (subS x.fst (Int.toNat x_1.snd) (Int.toNat (↑(ByteArray.size x.fst) : Int))) + (32 : Int))) (63 : Int))) :: nilL Int) (IntKind.wrap IntKind.i64 (x_1.snd + Go.Lb.one2 (subS x.fst (Int.toNat
  x_1.snd) (Int.toNat (↑(ByteArray.size x.fst) : Int)))))) ∧ Wr (ByteArray.size x.fst - Int.toNat (IntKind.wrap IntKind.i64 (x_1.snd + Go.Lb.one2 (subS x.fst (Int.toNat x_1.snd) (Int.toNat (↑(ByteArray.size x.fst) :
  Int))))) < ByteArray.size x.fst - Int.toNat x_1.snd) ∧ Wr (IntKind.wrap IntKind.i64 (x_1.snd + Go.Lb.one2 (subS x.fst (Int.toNat x_1.snd) (Int.toNat (↑(ByteArray.size x.fst) : Int)))) = IntKind.wrap IntKind.i64 (x_1.snd
  + Go.Lb.one2 (subS x.fst (Int.toNat x_1.snd) (Int.toNat (↑(ByteArray.size x.fst) : Int))))) ∧ Wr (x.fst = x.fst) ∧ Wr (x_1.fst ++ orI IntKind.u8 (192 : Int) (IntKind.wrap IntKind.u8 (Int.fdiv (IntKind.wrap IntKind.i32
  (Go.Lb.one1 (subS x.fst (Int.toNat x_1.snd) (Int.toNat (↑(ByteArray.size x.fst) : Int))) + (32 : Int))) ((2 : Int) ^ Min.min (Int.toNat (6 : Int)) (IntKind.bits IntKind.i32)))) :: orI IntKind.u8 (128 : Int)
  (IntKind.wrap IntKind.u8 (andI IntKind.i32 (IntKind.wrap IntKind.i32 (Go.Lb.one1 (subS x.fst (Int.toNat x_1.snd) (Int.toNat (↑(ByteArray.size x.fst) : Int))) + (32 : Int))) (63 : Int))) :: nilL Int = x_1.fst ++ orI
  IntKind.u8 (192 : Int) (IntKind.wrap IntKind.u8 (Int.fdiv (IntKind.wrap IntKind.i32 (Go.Lb.one1 (subS x.fst (Int.toNat x_1.snd) (Int.toNat (↑(ByteArray.size x.fst) : Int))) + (32 : Int))) ((2 : Int) ^ Min.min (Int.toNat
  (6 : Int)) (IntKind.bits IntKind.i32)))) :: orI IntKind.u8 (128 : Int) (IntKind.wrap IntKind.u8 (andI IntKind.i32 (IntKind.wrap IntKind.i32 (Go.Lb.one1 (subS x.fst (Int.toNat x_1.snd) (Int.toNat (↑(ByteArray.size x.fst)
  : Int))) + (32 : Int))) (63 : Int))) :: nilL Int)) (Wr ((0 : Int) ≤ x_1.snd) ∧ Wr (x_1.snd ≤ IntKind.wrap IntKind.i64 (x_1.snd + Go.Lb.one2 (subS x.fst (Int.toNat x_1.snd) (Int.toNat (↑(ByteArray.size x.fst) : Int)))))
  ∧ Wr (IntKind.wrap IntKind.i64 (x_1.snd + Go.Lb.one2 (subS x.fst (Int.toNat x_1.snd) (Int.toNat (↑(ByteArray.size x.fst) : Int)))) ≤ (↑(ByteArray.size x.fst) : Int)) ∧ Wr (List.length x_1.fst + ByteArray.size (subS
  x.fst (Int.toNat x_1.snd) (Int.toNat (IntKind.wrap IntKind.i64 (x_1.snd + Go.Lb.one2 (subS x.fst (Int.toNat x_1.snd) (Int.toNat (↑(ByteArray.size x.fst) : Int))))))) ≤ (140737488355328 : Nat)) ∧ Wr (FoldI x.fst (x_1.fst
  ++ bytesI (subS x.fst (Int.toNat x_1.snd) (Int.toNat (IntKind.wrap IntKind.i64 (x_1.snd + Go.Lb.one2 (subS x.fst (Int.toNat x_1.snd) (Int.toNat (↑(ByteArray.size x.fst) : Int)))))))) (IntKind.wrap IntKind.i64 (x_1.snd +
  Go.Lb.one2 (subS x.fst (Int.toNat x_1.snd) (Int.toNat (↑(ByteArray.size x.fst) : Int)))))) ∧ Wr (ByteArray.size x.fst - Int.toNat (IntKind.wrap IntKind.i64 (x_1.snd + Go.Lb.one2 (subS x.fst (Int.toNat x_1.snd)
  (Int.toNat (↑(ByteArray.size x.fst) : Int))))) < ByteArray.size x.fst - Int.toNat x_1.snd) ∧ Wr (IntKind.wrap IntKind.i64 (x_1.snd + Go.Lb.one2 (subS x.fst (Int.toNat x_1.snd) (Int.toNat (↑(ByteArray.size x.fst) :
  Int)))) = IntKind.wrap IntKind.i64 (x_1.snd + Go.Lb.one2 (subS x.fst (Int.toNat x_1.snd) (Int.toNat (↑(ByteArray.size x.fst) : Int))))) ∧ Wr (x.fst = x.fst) ∧ Wr (x_1.fst ++ bytesI (subS x.fst (Int.toNat x_1.snd)
  (Int.toNat (IntKind.wrap IntKind.i64 (x_1.snd + Go.Lb.one2 (subS x.fst (Int.toNat x_1.snd) (Int.toNat (↑(ByteArray.size x.fst) : Int))))))) = x_1.fst ++ bytesI (subS x.fst (Int.toNat x_1.snd) (Int.toNat (IntKind.wrap
  IntKind.i64 (x_1.snd + Go.Lb.one2 (subS x.fst (Int.toNat x_1.snd) (Int.toNat (↑(ByteArray.size x.fst) : Int))))))))))) (Wr (List.length x_1.fst ≤ Go.maxLen) ∧ (strI x_1.fst, (0 : Int), ()) = (Go.Lb.fold1 x.fst,
  Go.Lb.fold2 x.fst, ())))) := by kernel_rfl
theorem v112_eq : vcFn g112 300 Tryz.f112 cMay1 = ( ∀ (x : (Int × (Int × Int × Int × Int × Int × Int × Int × Int × Unit) × Int × Unit) × Unit), Wr (Bool.true = Bool.true) → bcase (Decidable.decide (x.fst.snd.snd.fst < (1 : Int)) || Decidable.decide (x.fst.snd.snd.fst >
  (65535 : Int)) || !Decidable.decide (x.fst.fst = (4 : Int)) && !Decidable.decide (x.fst.fst = (6 : Int))) ((Bool.false, ()) = (Go.Ad.may1 x.fst, ())) ((Wr (May2I x.fst (2 : Int)) ∧ Wr ((2 : Int) = (2 : Int)) ∧ Wr
  (x.fst.fst = x.fst.fst) ∧ Wr (x.fst.snd.fst.fst = x.fst.snd.fst.fst) ∧ Wr (x.fst.snd.fst.snd.fst = x.fst.snd.fst.snd.fst) ∧ Wr (x.fst.snd.fst.snd.snd.fst = x.fst.snd.fst.snd.snd.fst) ∧ Wr (x.fst.snd.fst.snd.snd.snd.fst
  = x.fst.snd.fst.snd.snd.snd.fst) ∧ Wr (x.fst.snd.fst.snd.snd.snd.snd.fst = x.fst.snd.fst.snd.snd.snd.snd.fst) ∧ Wr (x.fst.snd.fst.snd.snd.snd.snd.snd.fst = x.fst.snd.fst.snd.snd.snd.snd.snd.fst) ∧ Wr
  (x.fst.snd.fst.snd.snd.snd.snd.snd.snd.fst = x.fst.snd.fst.snd.snd.snd.snd.snd.snd.fst) ∧ Wr (x.fst.snd.fst.snd.snd.snd.snd.snd.snd.snd.fst = x.fst.snd.fst.snd.snd.snd.snd.snd.snd.snd.fst) ∧ Wr (x.fst.snd.snd.fst =
  x.fst.snd.snd.fst)) ∧ ∀ (x_1 : Int), Wr (May2I x.fst x_1) → bcase (Decidable.decide (x_1 < (8 : Int)) && Decidable.decide (x.fst.fst = (4 : Int))) (Wr ((0 : Int) ≤ x_1) ∧ Wr (x_1 < (↑(8 : Nat) : Int)) ∧ bcase
  (!Decidable.decide (List.getD (x.fst.snd.fst.fst :: x.fst.snd.fst.snd.fst :: x.fst.snd.fst.snd.snd.fst :: x.fst.snd.fst.snd.snd.snd.fst :: x.fst.snd.fst.snd.snd.snd.snd.fst :: x.fst.snd.fst.snd.snd.snd.snd.snd.fst ::
  x.fst.snd.fst.snd.snd.snd.snd.snd.snd.fst :: x.fst.snd.fst.snd.snd.snd.snd.snd.snd.snd.fst :: nilL Int) (Int.toNat x_1) (0 : Int) = (0 : Int))) ((Bool.false, ()) = (Go.Ad.may1 x.fst, ())) (Wr (May2I x.fst (IntKind.wrap
  IntKind.i64 (x_1 + (1 : Int)))) ∧ Wr ((8 : Nat) - Int.toNat (IntKind.wrap IntKind.i64 (x_1 + (1 : Int))) < (8 : Nat) - Int.toNat x_1) ∧ Wr (IntKind.wrap IntKind.i64 (x_1 + (1 : Int)) = IntKind.wrap IntKind.i64 (x_1 + (1
  : Int))) ∧ Wr (x.fst.fst = x.fst.fst) ∧ Wr (x.fst.snd.fst.fst = x.fst.snd.fst.fst) ∧ Wr (x.fst.snd.fst.snd.fst = x.fst.snd.fst.snd.fst) ∧ Wr (x.fst.snd.fst.snd.snd.fst = x.fst.snd.fst.snd.snd.fst) ∧ Wr
  (x.fst.snd.fst.snd.snd.snd.fst = x.fst.snd.fst.snd.snd.snd.fst) ∧ Wr (x.fst.snd.fst.snd.snd.snd.snd.fst = x.fst.snd.fst.snd.snd.snd.snd.fst) ∧ Wr (x.fst.snd.fst.snd.snd.snd.snd.snd.fst =
  x.fst.snd.fst.snd.snd.snd.snd.snd.fst) ∧ Wr (x.fst.snd.fst.snd.snd.snd.snd.snd.snd.fst = x.fst.snd.fst.snd.snd.snd.snd.snd.snd.fst) ∧ Wr (x.fst.snd.fst.snd.snd.snd.snd.snd.snd.snd.fst =
  x.fst.snd.fst.snd.snd.snd.snd.snd.snd.snd.fst) ∧ Wr (x.fst.snd.snd.fst = x.fst.snd.snd.fst))) ((Bool.true, ()) = (Go.Ad.may1 x.fst, ())))) := by kernel_rfl
theorem v77_eq : vcFn g77 300 Tryz.f77 cMay = ( ∀ (x : List (Int × (Int × Int × Int × Int × Int × Int × Int × Int × Unit) × Int × Unit) × Unit), Wr (lenA x.fst = Bool.true) → (Wr (MayI x.fst (0 : Int)) ∧ Wr ((0 : Int) = (0 : Int)) ∧ Wr (x.fst = x.fst)) ∧ ∀ (x_1 :
  Int), Wr (MayI x.fst x_1) → bcase (Decidable.decide (x_1 < (↑(List.length x.fst) : Int))) (Wr ((0 : Int) ≤ x_1) ∧ Wr (x_1 < (↑(List.length x.fst) : Int)) ∧ Wr (Bool.true = Bool.true) ∧ Wr (Bool.true = Bool.true) ∧ bcase
  (!Go.Ad.may1 (List.getD x.fst (Int.toNat x_1) (Ty.zero AdT))) ((Bool.false, ()) = (Go.Ad.mayA x.fst, ())) (Wr (MayI x.fst (IntKind.wrap IntKind.i64 (x_1 + (1 : Int)))) ∧ Wr (List.length x.fst - Int.toNat (IntKind.wrap
  IntKind.i64 (x_1 + (1 : Int))) < List.length x.fst - Int.toNat x_1) ∧ Wr (IntKind.wrap IntKind.i64 (x_1 + (1 : Int)) = IntKind.wrap IntKind.i64 (x_1 + (1 : Int))) ∧ Wr (x.fst = x.fst))) ((Bool.true, ()) = (Go.Ad.mayA
  x.fst, ()))) := by kernel_rfl
theorem v129_eq : vcFn g129 300 Tryz.f129 cOnce = ( ∀ (x : List (Int × (Int × Int × Int × Int × Int × Int × Int × Int × Unit) × Int × Unit) × Unit), Wr (lenA x.fst = Bool.true) → (Wr (OnO idK x.fst (0 : Int)) ∧ Wr ((0 : Int) = (0 : Int)) ∧ Wr (x.fst = x.fst) ∧ Wr
  (Bool.false = Bool.false)) ∧ ∀ (x_1 : Int), Wr (OnO idK x.fst x_1) → bcase (Decidable.decide (x_1 < (↑(List.length x.fst) : Int))) ((Wr (OnK idK x.fst Go.Ad.zA x_1 (0 : Int)) ∧ Wr ((0 : Int) = (0 : Int)) ∧ Wr (x.fst =
  x.fst) ∧ Wr (Bool.false = Bool.false) ∧ Wr (x_1 = x_1)) ∧ ∀ (x_2 : Int), Wr (OnK idK x.fst Go.Ad.zA x_1 x_2) → bcase (Decidable.decide (x_2 < x_1)) (Wr ((0 : Int) ≤ x_2) ∧ Wr (x_2 < (↑(List.length x.fst) : Int)) ∧ Wr
  (Bool.true = Bool.true) ∧ Wr ((0 : Int) ≤ x_1) ∧ Wr (x_1 < (↑(List.length x.fst) : Int)) ∧ Wr (Bool.true = Bool.true) ∧ bcase (Ty.eqb (Ty.cons (Ty.int IntKind.i8) (Ty.cons (Ty.arr (8 : Nat) (Ty.int IntKind.u16))
  (Ty.cons (Ty.int IntKind.i64) Ty.unit))) (List.getD x.fst (Int.toNat x_2) (Ty.zero AdT)) (List.getD x.fst (Int.toNat x_1) (Ty.zero AdT))) ((Bool.false, ()) = (onceA x.fst, ())) (Wr (OnK idK x.fst Go.Ad.zA x_1
  (IntKind.wrap IntKind.i64 (x_2 + (1 : Int)))) ∧ Wr (Int.toNat x_1 - Int.toNat (IntKind.wrap IntKind.i64 (x_2 + (1 : Int))) < Int.toNat x_1 - Int.toNat x_2) ∧ Wr (IntKind.wrap IntKind.i64 (x_2 + (1 : Int)) = IntKind.wrap
  IntKind.i64 (x_2 + (1 : Int))) ∧ Wr (x.fst = x.fst) ∧ Wr (Bool.false = Bool.false) ∧ Wr (x_1 = x_1))) (Wr (OnO idK x.fst (IntKind.wrap IntKind.i64 (x_1 + (1 : Int)))) ∧ Wr (List.length x.fst - Int.toNat (IntKind.wrap
  IntKind.i64 (x_1 + (1 : Int))) < List.length x.fst - Int.toNat x_1) ∧ Wr (IntKind.wrap IntKind.i64 (x_1 + (1 : Int)) = IntKind.wrap IntKind.i64 (x_1 + (1 : Int))) ∧ Wr (x.fst = x.fst) ∧ Wr (Bool.false = Bool.false)))
  (Wr (lenA x.fst = Bool.true) ∧ (Go.Ad.mayA x.fst, ()) = (onceA x.fst, ()))) := by kernel_rfl
theorem v90_eq : vcFn g90 300 Tryz.f90 cZones = ( ∀ (x : List (ByteArray × List (List (Int × (Int × Int × Int × Int × Int × Int × Int × Int × Unit) × Int × Unit)) × Unit) × Unit), Wr (okZs x.fst = Bool.true) → (Wr (ZnO x.fst (0 : Int)) ∧ Wr ((0 : Int) = (0 : Int)) ∧ Wr
  (x.fst = x.fst) ∧ Wr (Bool.false = Bool.false)) ∧ ∀ (x_1 : Int), Wr (ZnO x.fst x_1) → bcase (Decidable.decide (x_1 < (↑(List.length x.fst) : Int))) (Wr ((0 : Int) ≤ x_1) ∧ Wr (x_1 < (↑(List.length x.fst) : Int)) ∧ Wr
  (Bool.true = Bool.true) ∧ Wr (Bool.true = Bool.true) ∧ Wr (szOk (List.getD x.fst (Int.toNat x_1) (Ty.zero ZoneT)).fst = Bool.true) ∧ Wr ((!!Decidable.decide (Go.Lb.fold2 (List.getD x.fst (Int.toNat x_1) (Ty.zero
  ZoneT)).fst = (0 : Int))) = Bool.true → (0 : Int) ≤ x_1) ∧ Wr ((!!Decidable.decide (Go.Lb.fold2 (List.getD x.fst (Int.toNat x_1) (Ty.zero ZoneT)).fst = (0 : Int))) = Bool.true → x_1 < (↑(List.length x.fst) : Int)) ∧ Wr
  ((!!Decidable.decide (Go.Lb.fold2 (List.getD x.fst (Int.toNat x_1) (Ty.zero ZoneT)).fst = (0 : Int))) = Bool.true → Bool.true = Bool.true) ∧ Wr ((!!Decidable.decide (Go.Lb.fold2 (List.getD x.fst (Int.toNat x_1) (Ty.zero
  ZoneT)).fst = (0 : Int))) = Bool.true → Bool.true = Bool.true) ∧ Wr ((!(!Decidable.decide (Go.Lb.fold2 (List.getD x.fst (Int.toNat x_1) (Ty.zero ZoneT)).fst = (0 : Int)) || !Decidable.decide (Go.Lb.fold1 (List.getD
  x.fst (Int.toNat x_1) (Ty.zero ZoneT)).fst = (List.getD x.fst (Int.toNat x_1) (Ty.zero ZoneT)).fst))) = Bool.true → (0 : Int) ≤ x_1) ∧ Wr ((!(!Decidable.decide (Go.Lb.fold2 (List.getD x.fst (Int.toNat x_1) (Ty.zero
  ZoneT)).fst = (0 : Int)) || !Decidable.decide (Go.Lb.fold1 (List.getD x.fst (Int.toNat x_1) (Ty.zero ZoneT)).fst = (List.getD x.fst (Int.toNat x_1) (Ty.zero ZoneT)).fst))) = Bool.true → x_1 < (↑(List.length x.fst) :
  Int)) ∧ Wr ((!(!Decidable.decide (Go.Lb.fold2 (List.getD x.fst (Int.toNat x_1) (Ty.zero ZoneT)).fst = (0 : Int)) || !Decidable.decide (Go.Lb.fold1 (List.getD x.fst (Int.toNat x_1) (Ty.zero ZoneT)).fst = (List.getD x.fst
  (Int.toNat x_1) (Ty.zero ZoneT)).fst))) = Bool.true → Bool.true = Bool.true) ∧ Wr ((!(!Decidable.decide (Go.Lb.fold2 (List.getD x.fst (Int.toNat x_1) (Ty.zero ZoneT)).fst = (0 : Int)) || !Decidable.decide (Go.Lb.fold1
  (List.getD x.fst (Int.toNat x_1) (Ty.zero ZoneT)).fst = (List.getD x.fst (Int.toNat x_1) (Ty.zero ZoneT)).fst))) = Bool.true → Bool.true = Bool.true) ∧ Wr ((!(!Decidable.decide (Go.Lb.fold2 (List.getD x.fst (Int.toNat
  x_1) (Ty.zero ZoneT)).fst = (0 : Int)) || !Decidable.decide (Go.Lb.fold1 (List.getD x.fst (Int.toNat x_1) (Ty.zero ZoneT)).fst = (List.getD x.fst (Int.toNat x_1) (Ty.zero ZoneT)).fst) || Decidable.decide ((↑(List.length
  (List.getD x.fst (Int.toNat x_1) (Ty.zero ZoneT)).snd.fst) : Int) < (1 : Int)))) = Bool.true → (0 : Int) ≤ x_1) ∧ Wr ((!(!Decidable.decide (Go.Lb.fold2 (List.getD x.fst (Int.toNat x_1) (Ty.zero ZoneT)).fst = (0 : Int))
  || !Decidable.decide (Go.Lb.fold1 (List.getD x.fst (Int.toNat x_1) (Ty.zero ZoneT)).fst = (List.getD x.fst (Int.toNat x_1) (Ty.zero ZoneT)).fst) || Decidable.decide ((↑(List.length (List.getD x.fst (Int.toNat x_1)
  (Ty.zero ZoneT)).snd.fst) : Int) < (1 : Int)))) = Bool.true → x_1 < (↑(List.length x.fst) : Int)) ∧ Wr ((!(!Decidable.decide (Go.Lb.fold2 (List.getD x.fst (Int.toNat x_1) (Ty.zero ZoneT)).fst = (0 : Int)) ||
  !Decidable.decide (Go.Lb.fold1 (List.getD x.fst (Int.toNat x_1) (Ty.zero ZoneT)).fst = (List.getD x.fst (Int.toNat x_1) (Ty.zero ZoneT)).fst) || Decidable.decide ((↑(List.length (List.getD x.fst (Int.toNat x_1) (Ty.zero
  ZoneT)).snd.fst) : Int) < (1 : Int)))) = Bool.true → Bool.true = Bool.true) ∧ Wr ((!(!Decidable.decide (Go.Lb.fold2 (List.getD x.fst (Int.toNat x_1) (Ty.zero ZoneT)).fst = (0 : Int)) || !Decidable.decide (Go.Lb.fold1
  (List.getD x.fst (Int.toNat x_1) (Ty.zero ZoneT)).fst = (List.getD x.fst (Int.toNat x_1) (Ty.zero ZoneT)).fst) || Decidable.decide ((↑(List.length (List.getD x.fst (Int.toNat x_1) (Ty.zero ZoneT)).snd.fst) : Int) < (1 :
  Int)))) = Bool.true → Bool.true = Bool.true) ∧ bcase (!Decidable.decide (Go.Lb.fold2 (List.getD x.fst (Int.toNat x_1) (Ty.zero ZoneT)).fst = (0 : Int)) || !Decidable.decide (Go.Lb.fold1 (List.getD x.fst (Int.toNat x_1)
  (Ty.zero ZoneT)).fst = (List.getD x.fst (Int.toNat x_1) (Ty.zero ZoneT)).fst) || Decidable.decide ((↑(List.length (List.getD x.fst (Int.toNat x_1) (Ty.zero ZoneT)).snd.fst) : Int) < (1 : Int)) || Decidable.decide
  ((↑(List.length (List.getD x.fst (Int.toNat x_1) (Ty.zero ZoneT)).snd.fst) : Int) > (32 : Int))) ((Bool.false, ()) = (zonesB x.fst, ())) ((Wr (ZnK x.fst x_1 (0 : Int)) ∧ Wr ((0 : Int) = (0 : Int)) ∧ Wr (x.fst = x.fst) ∧
  Wr (Bool.false = Bool.false) ∧ Wr (x_1 = x_1)) ∧ ∀ (x_2 : Int), Wr (ZnK x.fst x_1 x_2) → bcase (Decidable.decide (x_2 < x_1)) (Wr ((0 : Int) ≤ x_2) ∧ Wr (x_2 < (↑(List.length x.fst) : Int)) ∧ Wr (Bool.true = Bool.true)
  ∧ Wr (Bool.true = Bool.true) ∧ Wr ((0 : Int) ≤ x_1) ∧ Wr (x_1 < (↑(List.length x.fst) : Int)) ∧ Wr (Bool.true = Bool.true) ∧ Wr (Bool.true = Bool.true) ∧ bcase (Decidable.decide ((List.getD x.fst (Int.toNat x_2)
  (Ty.zero ZoneT)).fst = (List.getD x.fst (Int.toNat x_1) (Ty.zero ZoneT)).fst)) ((Bool.false, ()) = (zonesB x.fst, ())) (Wr (ZnK x.fst x_1 (IntKind.wrap IntKind.i64 (x_2 + (1 : Int)))) ∧ Wr (Int.toNat x_1 - Int.toNat
  (IntKind.wrap IntKind.i64 (x_2 + (1 : Int))) < Int.toNat x_1 - Int.toNat x_2) ∧ Wr (IntKind.wrap IntKind.i64 (x_2 + (1 : Int)) = IntKind.wrap IntKind.i64 (x_2 + (1 : Int))) ∧ Wr (x.fst = x.fst) ∧ Wr (Bool.false =
  Bool.false) ∧ Wr (x_1 = x_1))) ((Wr (ZnR x.fst x_1 (0 : Int)) ∧ Wr ((0 : Int) = (0 : Int)) ∧ Wr (x.fst = x.fst) ∧ Wr (Bool.false = Bool.false) ∧ Wr (x_1 = x_1)) ∧ ∀ (x_3 : Int), Wr (ZnR x.fst x_1 x_3) → Wr ((0 : Int) ≤
  x_1) ∧ Wr (x_1 < (↑(List.length x.fst) : Int)) ∧ Wr (Bool.true = Bool.true) ∧ Wr (Bool.true = Bool.true) ∧ bcase (Decidable.decide (x_3 < (↑(List.length (List.getD x.fst (Int.toNat x_1) (Ty.zero ZoneT)).snd.fst) :
  Int))) (Wr ((0 : Int) ≤ x_1) ∧ Wr (x_1 < (↑(List.length x.fst) : Int)) ∧ Wr (Bool.true = Bool.true) ∧ Wr (Bool.true = Bool.true) ∧ Wr ((0 : Int) ≤ x_3) ∧ Wr (x_3 < (↑(List.length (List.getD x.fst (Int.toNat x_1)
  (Ty.zero ZoneT)).snd.fst) : Int)) ∧ Wr (Bool.true = Bool.true) ∧ Wr ((!Decidable.decide ((↑(List.length (List.getD (List.getD x.fst (Int.toNat x_1) (Ty.zero ZoneT)).snd.fst (Int.toNat x_3) (Ty.zero AdL))) : Int) > (16 :
  Int))) = Bool.true → (0 : Int) ≤ x_1) ∧ Wr ((!Decidable.decide ((↑(List.length (List.getD (List.getD x.fst (Int.toNat x_1) (Ty.zero ZoneT)).snd.fst (Int.toNat x_3) (Ty.zero AdL))) : Int) > (16 : Int))) = Bool.true → x_1
  < (↑(List.length x.fst) : Int)) ∧ Wr ((!Decidable.decide ((↑(List.length (List.getD (List.getD x.fst (Int.toNat x_1) (Ty.zero ZoneT)).snd.fst (Int.toNat x_3) (Ty.zero AdL))) : Int) > (16 : Int))) = Bool.true → Bool.true
  = Bool.true) ∧ Wr ((!Decidable.decide ((↑(List.length (List.getD (List.getD x.fst (Int.toNat x_1) (Ty.zero ZoneT)).snd.fst (Int.toNat x_3) (Ty.zero AdL))) : Int) > (16 : Int))) = Bool.true → Bool.true = Bool.true) ∧ Wr
  ((!Decidable.decide ((↑(List.length (List.getD (List.getD x.fst (Int.toNat x_1) (Ty.zero ZoneT)).snd.fst (Int.toNat x_3) (Ty.zero AdL))) : Int) > (16 : Int))) = Bool.true → (0 : Int) ≤ x_3) ∧ Wr ((!Decidable.decide
  ((↑(List.length (List.getD (List.getD x.fst (Int.toNat x_1) (Ty.zero ZoneT)).snd.fst (Int.toNat x_3) (Ty.zero AdL))) : Int) > (16 : Int))) = Bool.true → x_3 < (↑(List.length (List.getD x.fst (Int.toNat x_1) (Ty.zero
  ZoneT)).snd.fst) : Int)) ∧ Wr ((!Decidable.decide ((↑(List.length (List.getD (List.getD x.fst (Int.toNat x_1) (Ty.zero ZoneT)).snd.fst (Int.toNat x_3) (Ty.zero AdL))) : Int) > (16 : Int))) = Bool.true → Bool.true =
  Bool.true) ∧ Wr ((!Decidable.decide ((↑(List.length (List.getD (List.getD x.fst (Int.toNat x_1) (Ty.zero ZoneT)).snd.fst (Int.toNat x_3) (Ty.zero AdL))) : Int) > (16 : Int))) = Bool.true → lenA (List.getD (List.getD
  x.fst (Int.toNat x_1) (Ty.zero ZoneT)).snd.fst (Int.toNat x_3) (Ty.zero AdL)) = Bool.true) ∧ bcase (Decidable.decide ((↑(List.length (List.getD (List.getD x.fst (Int.toNat x_1) (Ty.zero ZoneT)).snd.fst (Int.toNat x_3)
  (Ty.zero AdL))) : Int) > (16 : Int)) || !onceA (List.getD (List.getD x.fst (Int.toNat x_1) (Ty.zero ZoneT)).snd.fst (Int.toNat x_3) (Ty.zero AdL))) ((Bool.false, ()) = (zonesB x.fst, ())) (Wr (ZnR x.fst x_1
  (IntKind.wrap IntKind.i64 (x_3 + (1 : Int)))) ∧ Wr ((32 : Nat) - Int.toNat (IntKind.wrap IntKind.i64 (x_3 + (1 : Int))) < (32 : Nat) - Int.toNat x_3) ∧ Wr (IntKind.wrap IntKind.i64 (x_3 + (1 : Int)) = IntKind.wrap
  IntKind.i64 (x_3 + (1 : Int))) ∧ Wr (x.fst = x.fst) ∧ Wr (Bool.false = Bool.false) ∧ Wr (x_1 = x_1))) (Wr (ZnO x.fst (IntKind.wrap IntKind.i64 (x_1 + (1 : Int)))) ∧ Wr (List.length x.fst - Int.toNat (IntKind.wrap
  IntKind.i64 (x_1 + (1 : Int))) < List.length x.fst - Int.toNat x_1) ∧ Wr (IntKind.wrap IntKind.i64 (x_1 + (1 : Int)) = IntKind.wrap IntKind.i64 (x_1 + (1 : Int))) ∧ Wr (x.fst = x.fst) ∧ Wr (Bool.false = Bool.false)))))
  ((Decidable.decide ((↑(List.length x.fst) : Int) ≤ (8 : Int)), ()) = (zonesB x.fst, ()))) := by kernel_rfl
theorem v91_eq : vcFn g91 300 Tryz.f91 cFates = ( ∀ (x : List ((Int × (Int × Int × Int × Int × Int × Int × Int × Int × Unit) × Int × Unit) × List Int × Unit) × Unit), Wr (okFs x.fst = Bool.true) → (Wr (FaO x.fst (0 : Int)) ∧ Wr ((0 : Int) = (0 : Int)) ∧ Wr (x.fst =
  x.fst) ∧ Wr (Bool.false = Bool.false)) ∧ ∀ (x_1 : Int), Wr (FaO x.fst x_1) → bcase (Decidable.decide (x_1 < (↑(List.length x.fst) : Int))) (Wr ((0 : Int) ≤ x_1) ∧ Wr (x_1 < (↑(List.length x.fst) : Int)) ∧ Wr (Bool.true
  = Bool.true) ∧ Wr (Bool.true = Bool.true) ∧ Wr (lenA ((List.getD x.fst (Int.toNat x_1) (Ty.zero FatT)).fst :: nilL (Int × (Int × Int × Int × Int × Int × Int × Int × Int × Unit) × Int × Unit)) = Bool.true) ∧ Wr
  ((!!Go.Ad.mayA ((List.getD x.fst (Int.toNat x_1) (Ty.zero FatT)).fst :: nilL (Int × (Int × Int × Int × Int × Int × Int × Int × Int × Unit) × Int × Unit))) = Bool.true → (0 : Int) ≤ x_1) ∧ Wr ((!!Go.Ad.mayA ((List.getD
  x.fst (Int.toNat x_1) (Ty.zero FatT)).fst :: nilL (Int × (Int × Int × Int × Int × Int × Int × Int × Int × Unit) × Int × Unit))) = Bool.true → x_1 < (↑(List.length x.fst) : Int)) ∧ Wr ((!!Go.Ad.mayA ((List.getD x.fst
  (Int.toNat x_1) (Ty.zero FatT)).fst :: nilL (Int × (Int × Int × Int × Int × Int × Int × Int × Int × Unit) × Int × Unit))) = Bool.true → Bool.true = Bool.true) ∧ Wr ((!!Go.Ad.mayA ((List.getD x.fst (Int.toNat x_1)
  (Ty.zero FatT)).fst :: nilL (Int × (Int × Int × Int × Int × Int × Int × Int × Int × Unit) × Int × Unit))) = Bool.true → Bool.true = Bool.true) ∧ Wr ((!(!Go.Ad.mayA ((List.getD x.fst (Int.toNat x_1) (Ty.zero FatT)).fst
  :: nilL (Int × (Int × Int × Int × Int × Int × Int × Int × Int × Unit) × Int × Unit)) || Decidable.decide ((↑(List.length (List.getD x.fst (Int.toNat x_1) (Ty.zero FatT)).snd.fst) : Int) < (1 : Int)))) = Bool.true → (0 :
  Int) ≤ x_1) ∧ Wr ((!(!Go.Ad.mayA ((List.getD x.fst (Int.toNat x_1) (Ty.zero FatT)).fst :: nilL (Int × (Int × Int × Int × Int × Int × Int × Int × Int × Unit) × Int × Unit)) || Decidable.decide ((↑(List.length (List.getD
  x.fst (Int.toNat x_1) (Ty.zero FatT)).snd.fst) : Int) < (1 : Int)))) = Bool.true → x_1 < (↑(List.length x.fst) : Int)) ∧ Wr ((!(!Go.Ad.mayA ((List.getD x.fst (Int.toNat x_1) (Ty.zero FatT)).fst :: nilL (Int × (Int × Int
  × Int × Int × Int × Int × Int × Int × Unit) × Int × Unit)) || Decidable.decide ((↑(List.length (List.getD x.fst (Int.toNat x_1) (Ty.zero FatT)).snd.fst) : Int) < (1 : Int)))) = Bool.true → Bool.true = Bool.true) ∧ Wr
  ((!(!Go.Ad.mayA ((List.getD x.fst (Int.toNat x_1) (Ty.zero FatT)).fst :: nilL (Int × (Int × Int × Int × Int × Int × Int × Int × Int × Unit) × Int × Unit)) || Decidable.decide ((↑(List.length (List.getD x.fst (Int.toNat
  x_1) (Ty.zero FatT)).snd.fst) : Int) < (1 : Int)))) = Bool.true → Bool.true = Bool.true) ∧ bcase (!Go.Ad.mayA ((List.getD x.fst (Int.toNat x_1) (Ty.zero FatT)).fst :: nilL (Int × (Int × Int × Int × Int × Int × Int × Int
  × Int × Unit) × Int × Unit)) || Decidable.decide ((↑(List.length (List.getD x.fst (Int.toNat x_1) (Ty.zero FatT)).snd.fst) : Int) < (1 : Int)) || Decidable.decide ((↑(List.length (List.getD x.fst (Int.toNat x_1)
  (Ty.zero FatT)).snd.fst) : Int) > (32 : Int))) ((Bool.false, ()) = (fatesB x.fst, ())) ((Wr (FaK x.fst x_1 (0 : Int)) ∧ Wr ((0 : Int) = (0 : Int)) ∧ Wr (x.fst = x.fst) ∧ Wr (Bool.false = Bool.false) ∧ Wr (x_1 = x_1)) ∧
  ∀ (x_2 : Int), Wr (FaK x.fst x_1 x_2) → bcase (Decidable.decide (x_2 < x_1)) (Wr ((0 : Int) ≤ x_2) ∧ Wr (x_2 < (↑(List.length x.fst) : Int)) ∧ Wr (Bool.true = Bool.true) ∧ Wr (Bool.true = Bool.true) ∧ Wr ((0 : Int) ≤
  x_1) ∧ Wr (x_1 < (↑(List.length x.fst) : Int)) ∧ Wr (Bool.true = Bool.true) ∧ Wr (Bool.true = Bool.true) ∧ bcase (Ty.eqb (Ty.cons (Ty.int IntKind.i8) (Ty.cons (Ty.arr (8 : Nat) (Ty.int IntKind.u16)) (Ty.cons (Ty.int
  IntKind.i64) Ty.unit))) (List.getD x.fst (Int.toNat x_2) (Ty.zero FatT)).fst (List.getD x.fst (Int.toNat x_1) (Ty.zero FatT)).fst) ((Bool.false, ()) = (fatesB x.fst, ())) (Wr (FaK x.fst x_1 (IntKind.wrap IntKind.i64
  (x_2 + (1 : Int)))) ∧ Wr (Int.toNat x_1 - Int.toNat (IntKind.wrap IntKind.i64 (x_2 + (1 : Int))) < Int.toNat x_1 - Int.toNat x_2) ∧ Wr (IntKind.wrap IntKind.i64 (x_2 + (1 : Int)) = IntKind.wrap IntKind.i64 (x_2 + (1 :
  Int))) ∧ Wr (x.fst = x.fst) ∧ Wr (Bool.false = Bool.false) ∧ Wr (x_1 = x_1))) ((Wr (FaR x.fst x_1 (0 : Int)) ∧ Wr ((0 : Int) = (0 : Int)) ∧ Wr (x.fst = x.fst) ∧ Wr (Bool.false = Bool.false) ∧ Wr (x_1 = x_1)) ∧ ∀ (x_3 :
  Int), Wr (FaR x.fst x_1 x_3) → Wr ((0 : Int) ≤ x_1) ∧ Wr (x_1 < (↑(List.length x.fst) : Int)) ∧ Wr (Bool.true = Bool.true) ∧ Wr (Bool.true = Bool.true) ∧ bcase (Decidable.decide (x_3 < (↑(List.length (List.getD x.fst
  (Int.toNat x_1) (Ty.zero FatT)).snd.fst) : Int))) (Wr ((0 : Int) ≤ x_1) ∧ Wr (x_1 < (↑(List.length x.fst) : Int)) ∧ Wr (Bool.true = Bool.true) ∧ Wr (Bool.true = Bool.true) ∧ Wr ((0 : Int) ≤ x_3) ∧ Wr (x_3 <
  (↑(List.length (List.getD x.fst (Int.toNat x_1) (Ty.zero FatT)).snd.fst) : Int)) ∧ Wr (Bool.true = Bool.true) ∧ Wr ((!Decidable.decide (List.getD (List.getD x.fst (Int.toNat x_1) (Ty.zero FatT)).snd.fst (Int.toNat x_3)
  (0 : Int) < (0 : Int))) = Bool.true → (0 : Int) ≤ x_1) ∧ Wr ((!Decidable.decide (List.getD (List.getD x.fst (Int.toNat x_1) (Ty.zero FatT)).snd.fst (Int.toNat x_3) (0 : Int) < (0 : Int))) = Bool.true → x_1 <
  (↑(List.length x.fst) : Int)) ∧ Wr ((!Decidable.decide (List.getD (List.getD x.fst (Int.toNat x_1) (Ty.zero FatT)).snd.fst (Int.toNat x_3) (0 : Int) < (0 : Int))) = Bool.true → Bool.true = Bool.true) ∧ Wr
  ((!Decidable.decide (List.getD (List.getD x.fst (Int.toNat x_1) (Ty.zero FatT)).snd.fst (Int.toNat x_3) (0 : Int) < (0 : Int))) = Bool.true → Bool.true = Bool.true) ∧ Wr ((!Decidable.decide (List.getD (List.getD x.fst
  (Int.toNat x_1) (Ty.zero FatT)).snd.fst (Int.toNat x_3) (0 : Int) < (0 : Int))) = Bool.true → (0 : Int) ≤ x_3) ∧ Wr ((!Decidable.decide (List.getD (List.getD x.fst (Int.toNat x_1) (Ty.zero FatT)).snd.fst (Int.toNat x_3)
  (0 : Int) < (0 : Int))) = Bool.true → x_3 < (↑(List.length (List.getD x.fst (Int.toNat x_1) (Ty.zero FatT)).snd.fst) : Int)) ∧ Wr ((!Decidable.decide (List.getD (List.getD x.fst (Int.toNat x_1) (Ty.zero FatT)).snd.fst
  (Int.toNat x_3) (0 : Int) < (0 : Int))) = Bool.true → Bool.true = Bool.true) ∧ bcase (Decidable.decide (List.getD (List.getD x.fst (Int.toNat x_1) (Ty.zero FatT)).snd.fst (Int.toNat x_3) (0 : Int) < (0 : Int)) ||
  Decidable.decide (List.getD (List.getD x.fst (Int.toNat x_1) (Ty.zero FatT)).snd.fst (Int.toNat x_3) (0 : Int) > (2 : Int))) ((Bool.false, ()) = (fatesB x.fst, ())) (Wr (FaR x.fst x_1 (IntKind.wrap IntKind.i64 (x_3 + (1
  : Int)))) ∧ Wr ((32 : Nat) - Int.toNat (IntKind.wrap IntKind.i64 (x_3 + (1 : Int))) < (32 : Nat) - Int.toNat x_3) ∧ Wr (IntKind.wrap IntKind.i64 (x_3 + (1 : Int)) = IntKind.wrap IntKind.i64 (x_3 + (1 : Int))) ∧ Wr
  (x.fst = x.fst) ∧ Wr (Bool.false = Bool.false) ∧ Wr (x_1 = x_1))) (Wr (FaO x.fst (IntKind.wrap IntKind.i64 (x_1 + (1 : Int)))) ∧ Wr (List.length x.fst - Int.toNat (IntKind.wrap IntKind.i64 (x_1 + (1 : Int))) <
  List.length x.fst - Int.toNat x_1) ∧ Wr (IntKind.wrap IntKind.i64 (x_1 + (1 : Int)) = IntKind.wrap IntKind.i64 (x_1 + (1 : Int))) ∧ Wr (x.fst = x.fst) ∧ Wr (Bool.false = Bool.false))))) ((Decidable.decide
  ((↑(List.length x.fst) : Int) ≤ (32 : Int)), ()) = (fatesB x.fst, ()))) := by kernel_rfl
theorem v37_eq : vcFn g37 300 Tryz.f37 cCheckR = ( ∀ (x : (List (ByteArray × List (List (Int × (Int × Int × Int × Int × Int × Int × Int × Int × Unit) × Int × Unit)) × Unit) × List ((Int × (Int × Int × Int × Int × Int × Int × Int × Int × Unit) × Int × Unit) × List Int ×
  Unit) × Int × List Int × Unit) × Unit), Wr (okQ x.fst = Bool.true) → Wr (okZs x.fst.fst = Bool.true) ∧ Wr ((!!zonesB x.fst.fst) = Bool.true → okFs x.fst.snd.fst = Bool.true) ∧ bcase (!zonesB x.fst.fst || !fatesB
  x.fst.snd.fst || Decidable.decide (x.fst.snd.snd.fst < (0 : Int)) || Decidable.decide (x.fst.snd.snd.fst > (200 : Int)) || Decidable.decide ((↑(List.length x.fst.snd.snd.snd.fst) : Int) > (16 : Int))) (((90 : Int), ())
  = (check x.fst, ())) ((Wr (DrI x.fst.snd.snd.snd.fst (0 : Int)) ∧ Wr ((0 : Int) = (0 : Int)) ∧ Wr ((0 : Int) = (0 : Int)) ∧ Wr (x.fst.fst = x.fst.fst) ∧ Wr (x.fst.snd.fst = x.fst.snd.fst) ∧ Wr (x.fst.snd.snd.fst =
  x.fst.snd.snd.fst) ∧ Wr (x.fst.snd.snd.snd.fst = x.fst.snd.snd.snd.fst)) ∧ ∀ (x_1 : Int), Wr (DrI x.fst.snd.snd.snd.fst x_1) → bcase (Decidable.decide (x_1 < (↑(List.length x.fst.snd.snd.snd.fst) : Int))) (Wr ((0 : Int)
  ≤ x_1) ∧ Wr (x_1 < (↑(List.length x.fst.snd.snd.snd.fst) : Int)) ∧ Wr (Bool.true = Bool.true) ∧ bcase (Decidable.decide (List.getD x.fst.snd.snd.snd.fst (Int.toNat x_1) (0 : Int) < (0 : Int))) (((90 : Int), ()) = (check
  x.fst, ())) (Wr (DrI x.fst.snd.snd.snd.fst (IntKind.wrap IntKind.i64 (x_1 + (1 : Int)))) ∧ Wr (List.length x.fst.snd.snd.snd.fst - Int.toNat (IntKind.wrap IntKind.i64 (x_1 + (1 : Int))) < List.length
  x.fst.snd.snd.snd.fst - Int.toNat x_1) ∧ Wr (IntKind.wrap IntKind.i64 (x_1 + (1 : Int)) = IntKind.wrap IntKind.i64 (x_1 + (1 : Int))) ∧ Wr ((0 : Int) = (0 : Int)) ∧ Wr (x.fst.fst = x.fst.fst) ∧ Wr (x.fst.snd.fst =
  x.fst.snd.fst) ∧ Wr (x.fst.snd.snd.fst = x.fst.snd.snd.fst) ∧ Wr (x.fst.snd.snd.snd.fst = x.fst.snd.snd.snd.fst))) (((0 : Int), ()) = (check x.fst, ())))) := by kernel_rfl
theorem v11_eq : vcFn g11 300 Tryz.f11 cNewR = ( ∀ (x : (List (ByteArray × List (List (Int × (Int × Int × Int × Int × Int × Int × Int × Int × Unit) × Int × Unit)) × Unit) × List ((Int × (Int × Int × Int × Int × Int × Int × Int × Int × Unit) × Int × Unit) × List Int ×
  Unit) × Int × List Int × Unit) × Unit), Wr (okQ x.fst = Bool.true) → Wr (okQ x.fst = Bool.true) ∧ bcase (!Decidable.decide (check x.fst = (0 : Int))) ((((nilL (ByteArray × List (List (Int × (Int × Int × Int × Int × Int
  × Int × Int × Int × Unit) × Int × Unit)) × Unit), nilL ((Int × (Int × Int × Int × Int × Int × Int × Int × Int × Unit) × Int × Unit) × List Int × Unit), (0 : Int), nilL Int, ()), (0 : Int), nilL ((Int × (Int × Int × Int
  × Int × Int × Int × Int × Int × Unit) × Int × Unit) × Int × Int × Int × Bool × Unit), nilL (Int × (Int × (Int × Int × Int × Int × Int × Int × Int × Int × Unit) × Int × Unit) × Int × Bool × Bool × Unit), nilL (Int ×
  ByteArray × Int × Bool × Unit), (0 : Int), nilL (Bool × Int × Int × Unit), ()), (90 : Int), ()) = (newW x.fst, check x.fst, ())) (((x.fst, (0 : Int), nilL ((Int × (Int × Int × Int × Int × Int × Int × Int × Int × Unit) ×
  Int × Unit) × Int × Int × Int × Bool × Unit), nilL (Int × (Int × (Int × Int × Int × Int × Int × Int × Int × Int × Unit) × Int × Unit) × Int × Bool × Bool × Unit), nilL (Int × ByteArray × Int × Bool × Unit), (0 : Int),
  nilL (Bool × Int × Int × Unit), ()), (0 : Int), ()) = (newW x.fst, check x.fst, ()))) := by kernel_rfl
theorem v14_eq : vcFn g14 300 Tryz.f14 cTick = ( ∀ (x : ((List (ByteArray × List (List (Int × (Int × Int × Int × Int × Int × Int × Int × Int × Unit) × Int × Unit)) × Unit) × List ((Int × (Int × Int × Int × Int × Int × Int × Int × Int × Unit) × Int × Unit) × List Int ×
  Unit) × Int × List Int × Unit) × Int × List ((Int × (Int × Int × Int × Int × Int × Int × Int × Int × Unit) × Int × Unit) × Int × Int × Int × Bool × Unit) × List (Int × (Int × (Int × Int × Int × Int × Int × Int × Int ×
  Int × Unit) × Int × Unit) × Int × Bool × Bool × Unit) × List (Int × ByteArray × Int × Bool × Unit) × Int × List (Bool × Int × Int × Unit) × Unit) × Unit), Wr (Bool.true = Bool.true) → bcase (Decidable.decide
  (x.fst.snd.fst ≥ x.fst.fst.snd.snd.fst)) ((x.fst, (70 : Int), ()) = (tickW x.fst, tickE x.fst, ())) (((x.fst.fst, IntKind.wrap IntKind.i64 (x.fst.snd.fst + (1 : Int)), x.fst.snd.snd), (0 : Int), ()) = (tickW x.fst,
  tickE x.fst, ()))) := by kernel_rfl
theorem v96_eq : vcFn g96 300 Tryz.f96 ((cClone 111 64 SockT)) = ( ∀ (x : List ((Int × (Int × Int × Int × Int × Int × Int × Int × Int × Unit) × Int × Unit) × Int × Int × Int × Bool × Unit) × Unit), Wr (Decidable.decide (List.length x.fst * (64 : Nat) ≤ (140737488355328 : Nat)) =
  Bool.true) → Wr (List.length x.fst * (64 : Nat) ≤ (140737488355328 : Nat)) ∧ x.fst = x.fst) := by kernel_rfl
theorem v44_eq : vcFn g44 300 Tryz.f44 cDropS = ( ∀ (x : List ((Int × (Int × Int × Int × Int × Int × Int × Int × Int × Unit) × Int × Unit) × Int × Int × Int × Bool × Unit) × Int × Unit), Wr (okN x.fst = Bool.true) → Wr ((!(Decidable.decide (x.snd.fst < (0 : Int)) ||
  Decidable.decide (x.snd.fst ≥ (↑(List.length x.fst) : Int)))) = Bool.true → (0 : Int) ≤ x.snd.fst) ∧ Wr ((!(Decidable.decide (x.snd.fst < (0 : Int)) || Decidable.decide (x.snd.fst ≥ (↑(List.length x.fst) : Int)))) =
  Bool.true → x.snd.fst < (↑(List.length x.fst) : Int)) ∧ Wr ((!(Decidable.decide (x.snd.fst < (0 : Int)) || Decidable.decide (x.snd.fst ≥ (↑(List.length x.fst) : Int)))) = Bool.true → Bool.true = Bool.true) ∧ Wr
  ((!(Decidable.decide (x.snd.fst < (0 : Int)) || Decidable.decide (x.snd.fst ≥ (↑(List.length x.fst) : Int)))) = Bool.true → Bool.true = Bool.true) ∧ bcase (Decidable.decide (x.snd.fst < (0 : Int)) || Decidable.decide
  (x.snd.fst ≥ (↑(List.length x.fst) : Int)) || !Decidable.decide ((List.getD x.fst (Int.toNat x.snd.fst) (Ty.zero SockT)).snd.snd.snd.fst = (0 : Int))) ((nilL ((Int × (Int × Int × Int × Int × Int × Int × Int × Int ×
  Unit) × Int × Unit) × Int × Int × Int × Bool × Unit), (80 : Int), ()) = (Go.Sk.drA x.fst x.snd.fst, Go.Sk.drE x.fst x.snd.fst, ())) (Wr (Decidable.decide (List.length x.fst * (64 : Nat) ≤ (140737488355328 : Nat)) =
  Bool.true) ∧ Wr ((0 : Int) ≤ x.snd.fst) ∧ Wr (x.snd.fst < (↑(List.length x.fst) : Int)) ∧ (List.set x.fst (Int.toNat x.snd.fst) ((List.getD x.fst (Int.toNat x.snd.fst) (Ty.zero SockT)).fst, (List.getD x.fst (Int.toNat
  x.snd.fst) (Ty.zero SockT)).snd.fst, (List.getD x.fst (Int.toNat x.snd.fst) (Ty.zero SockT)).snd.snd.fst, (List.getD x.fst (Int.toNat x.snd.fst) (Ty.zero SockT)).snd.snd.snd.fst, Bool.true, ()), (0 : Int), ()) =
  (Go.Sk.drA x.fst x.snd.fst, Go.Sk.drE x.fst x.snd.fst, ()))) := by kernel_rfl
theorem v16_eq : vcFn g16 300 Tryz.f16 cDropW = ( ∀ (x : ((List (ByteArray × List (List (Int × (Int × Int × Int × Int × Int × Int × Int × Int × Unit) × Int × Unit)) × Unit) × List ((Int × (Int × Int × Int × Int × Int × Int × Int × Int × Unit) × Int × Unit) × List Int ×
  Unit) × Int × List Int × Unit) × Int × List ((Int × (Int × Int × Int × Int × Int × Int × Int × Int × Unit) × Int × Unit) × Int × Int × Int × Bool × Unit) × List (Int × (Int × (Int × Int × Int × Int × Int × Int × Int ×
  Int × Unit) × Int × Unit) × Int × Bool × Bool × Unit) × List (Int × ByteArray × Int × Bool × Unit) × Int × List (Bool × Int × Int × Unit) × Unit) × Unit), Wr (okN x.fst.snd.snd.fst = Bool.true) → bcase (Decidable.decide
  (x.fst.snd.snd.snd.snd.snd.fst < (0 : Int)) || Decidable.decide (x.fst.snd.snd.snd.snd.snd.fst ≥ (↑(List.length x.fst.fst.snd.snd.snd.fst) : Int))) ((x.fst, (70 : Int), ()) = (dropW x.fst, dropE x.fst, ())) (Wr ((0 :
  Int) ≤ x.fst.snd.snd.snd.snd.snd.fst) ∧ Wr (x.fst.snd.snd.snd.snd.snd.fst < (↑(List.length x.fst.fst.snd.snd.snd.fst) : Int)) ∧ Wr (Bool.true = Bool.true) ∧ Wr (okN x.fst.snd.snd.fst = Bool.true) ∧ bcase
  (Decidable.decide (Go.Sk.drE x.fst.snd.snd.fst (List.getD x.fst.fst.snd.snd.snd.fst (Int.toNat x.fst.snd.snd.snd.snd.snd.fst) (0 : Int)) = (0 : Int))) (((x.fst.fst, x.fst.snd.fst, Go.Sk.drA x.fst.snd.snd.fst (List.getD
  x.fst.fst.snd.snd.snd.fst (Int.toNat x.fst.snd.snd.snd.snd.snd.fst) (0 : Int)), x.fst.snd.snd.snd.fst, x.fst.snd.snd.snd.snd.fst, IntKind.wrap IntKind.i64 (x.fst.snd.snd.snd.snd.snd.fst + (1 : Int)),
  x.fst.snd.snd.snd.snd.snd.snd), (0 : Int), ()) = (dropW x.fst, dropE x.fst, ())) (((x.fst.fst, x.fst.snd.fst, x.fst.snd.snd.fst, x.fst.snd.snd.snd.fst, x.fst.snd.snd.snd.snd.fst, IntKind.wrap IntKind.i64
  (x.fst.snd.snd.snd.snd.snd.fst + (1 : Int)), x.fst.snd.snd.snd.snd.snd.snd), (0 : Int), ()) = (dropW x.fst, dropE x.fst, ())))) := by kernel_rfl
theorem v7_eq : vcFn g7 300 Tryz.f7 cGreatP = ( ∀ (x : (List (ByteArray × List (List (Int × (Int × Int × Int × Int × Int × Int × Int × Int × Unit) × Int × Unit)) × Unit) × List ((Int × (Int × Int × Int × Int × Int × Int × Int × Int × Unit) × Int × Unit) × List Int ×
  Unit) × Int × List Int × Unit) × Unit), Wr (okR x.fst = Bool.true) → (Wr (Gp1 x.fst (↑(List.length x.fst.snd.snd.snd.fst) : Int) (0 : Int)) ∧ Wr ((↑(List.length x.fst.snd.snd.snd.fst) : Int) = (↑(List.length
  x.fst.snd.snd.snd.fst) : Int)) ∧ Wr ((0 : Int) = (0 : Int)) ∧ Wr (Bool.false = Bool.false) ∧ Wr (x.fst.fst = x.fst.fst) ∧ Wr (x.fst.snd.fst = x.fst.snd.fst) ∧ Wr (x.fst.snd.snd.fst = x.fst.snd.snd.fst) ∧ Wr
  (x.fst.snd.snd.snd.fst = x.fst.snd.snd.snd.fst)) ∧ ∀ (x_1 : Int × Int), Wr (Gp1 x.fst x_1.fst x_1.snd) → bcase (Decidable.decide (x_1.snd < (↑(List.length x.fst.fst) : Int)) && Decidable.decide (x_1.snd ≤ (40 : Int)))
  (Wr ((0 : Int) ≤ x_1.snd) ∧ Wr (x_1.snd < (↑(List.length x.fst.fst) : Int)) ∧ Wr (Bool.true = Bool.true) ∧ Wr (Bool.true = Bool.true) ∧ Wr ((!Decidable.decide ((↑(List.length (List.getD x.fst.fst (Int.toNat x_1.snd)
  (Ty.zero ZoneT)).snd.fst) : Int) > (60 : Int))) = Bool.true → (0 : Int) ≤ x_1.snd) ∧ Wr ((!Decidable.decide ((↑(List.length (List.getD x.fst.fst (Int.toNat x_1.snd) (Ty.zero ZoneT)).snd.fst) : Int) > (60 : Int))) =
  Bool.true → x_1.snd < (↑(List.length x.fst.fst) : Int)) ∧ Wr ((!Decidable.decide ((↑(List.length (List.getD x.fst.fst (Int.toNat x_1.snd) (Ty.zero ZoneT)).snd.fst) : Int) > (60 : Int))) = Bool.true → Bool.true =
  Bool.true) ∧ Wr ((!Decidable.decide ((↑(List.length (List.getD x.fst.fst (Int.toNat x_1.snd) (Ty.zero ZoneT)).snd.fst) : Int) > (60 : Int))) = Bool.true → Bool.true = Bool.true) ∧ bcase (Decidable.decide ((↑(List.length
  (List.getD x.fst.fst (Int.toNat x_1.snd) (Ty.zero ZoneT)).snd.fst) : Int) > (60 : Int)) || Decidable.decide ((↑(ByteArray.size (List.getD x.fst.fst (Int.toNat x_1.snd) (Ty.zero ZoneT)).fst) : Int) > (400 : Int)))
  ((Bool.true, ()) = (greatP x.fst, ())) ((Wr (Gp2 x.fst x_1.snd x_1.fst (0 : Int)) ∧ Wr (x_1.fst = x_1.fst) ∧ Wr ((0 : Int) = (0 : Int)) ∧ Wr (Bool.false = Bool.false) ∧ Wr (x_1.snd = x_1.snd) ∧ Wr (x.fst.fst =
  x.fst.fst) ∧ Wr (x.fst.snd.fst = x.fst.snd.fst) ∧ Wr (x.fst.snd.snd.fst = x.fst.snd.snd.fst) ∧ Wr (x.fst.snd.snd.snd.fst = x.fst.snd.snd.snd.fst)) ∧ ∀ (x_2 : Int × Int), Wr (Gp2 x.fst x_1.snd x_2.fst x_2.snd) → Wr ((0 :
  Int) ≤ x_1.snd) ∧ Wr (x_1.snd < (↑(List.length x.fst.fst) : Int)) ∧ Wr (Bool.true = Bool.true) ∧ Wr (Bool.true = Bool.true) ∧ bcase (Decidable.decide (x_2.snd < (↑(List.length (List.getD x.fst.fst (Int.toNat x_1.snd)
  (Ty.zero ZoneT)).snd.fst) : Int))) (Wr ((0 : Int) ≤ x_1.snd) ∧ Wr (x_1.snd < (↑(List.length x.fst.fst) : Int)) ∧ Wr (Bool.true = Bool.true) ∧ Wr (Bool.true = Bool.true) ∧ Wr ((0 : Int) ≤ x_2.snd) ∧ Wr (x_2.snd <
  (↑(List.length (List.getD x.fst.fst (Int.toNat x_1.snd) (Ty.zero ZoneT)).snd.fst) : Int)) ∧ Wr (Bool.true = Bool.true) ∧ Wr (Gp2 x.fst x_1.snd (IntKind.wrap IntKind.i64 (x_2.fst + Min.min (↑(List.length (List.getD
  (List.getD x.fst.fst (Int.toNat x_1.snd) (Ty.zero ZoneT)).snd.fst (Int.toNat x_2.snd) (Ty.zero AdL))) : Int) (1000 : Int))) (IntKind.wrap IntKind.i64 (x_2.snd + (1 : Int)))) ∧ Wr ((61 : Nat) - Int.toNat (IntKind.wrap
  IntKind.i64 (x_2.snd + (1 : Int))) < (61 : Nat) - Int.toNat x_2.snd) ∧ Wr (IntKind.wrap IntKind.i64 (x_2.fst + Min.min (↑(List.length (List.getD (List.getD x.fst.fst (Int.toNat x_1.snd) (Ty.zero ZoneT)).snd.fst
  (Int.toNat x_2.snd) (Ty.zero AdL))) : Int) (1000 : Int)) = IntKind.wrap IntKind.i64 (x_2.fst + Min.min (↑(List.length (List.getD (List.getD x.fst.fst (Int.toNat x_1.snd) (Ty.zero ZoneT)).snd.fst (Int.toNat x_2.snd)
  (Ty.zero AdL))) : Int) (1000 : Int))) ∧ Wr (IntKind.wrap IntKind.i64 (x_2.snd + (1 : Int)) = IntKind.wrap IntKind.i64 (x_2.snd + (1 : Int))) ∧ Wr (Bool.false = Bool.false) ∧ Wr (x_1.snd = x_1.snd) ∧ Wr (x.fst.fst =
  x.fst.fst) ∧ Wr (x.fst.snd.fst = x.fst.snd.fst) ∧ Wr (x.fst.snd.snd.fst = x.fst.snd.snd.fst) ∧ Wr (x.fst.snd.snd.snd.fst = x.fst.snd.snd.snd.fst)) (Wr (Gp1 x.fst x_2.fst (IntKind.wrap IntKind.i64 (x_1.snd + (1 : Int))))
  ∧ Wr ((41 : Nat) - Int.toNat (IntKind.wrap IntKind.i64 (x_1.snd + (1 : Int))) < (41 : Nat) - Int.toNat x_1.snd) ∧ Wr (x_2.fst = x_2.fst) ∧ Wr (IntKind.wrap IntKind.i64 (x_1.snd + (1 : Int)) = IntKind.wrap IntKind.i64
  (x_1.snd + (1 : Int))) ∧ Wr (Bool.false = Bool.false) ∧ Wr (x.fst.fst = x.fst.fst) ∧ Wr (x.fst.snd.fst = x.fst.snd.fst) ∧ Wr (x.fst.snd.snd.fst = x.fst.snd.snd.fst) ∧ Wr (x.fst.snd.snd.snd.fst =
  x.fst.snd.snd.snd.fst)))) ((Wr (Gp3 x.fst x_1.fst (0 : Int)) ∧ Wr (x_1.fst = x_1.fst) ∧ Wr ((0 : Int) = (0 : Int)) ∧ Wr (Bool.false = Bool.false) ∧ Wr (x.fst.fst = x.fst.fst) ∧ Wr (x.fst.snd.fst = x.fst.snd.fst) ∧ Wr
  (x.fst.snd.snd.fst = x.fst.snd.snd.fst) ∧ Wr (x.fst.snd.snd.snd.fst = x.fst.snd.snd.snd.fst)) ∧ ∀ (x_2 : Int × Int), Wr (Gp3 x.fst x_2.fst x_2.snd) → bcase (Decidable.decide (x_2.snd < (↑(List.length x.fst.snd.fst) :
  Int)) && Decidable.decide (x_2.snd ≤ (100 : Int))) (Wr ((0 : Int) ≤ x_2.snd) ∧ Wr (x_2.snd < (↑(List.length x.fst.snd.fst) : Int)) ∧ Wr (Bool.true = Bool.true) ∧ Wr (Bool.true = Bool.true) ∧ Wr (Gp3 x.fst (IntKind.wrap
  IntKind.i64 (x_2.fst + Min.min (↑(List.length (List.getD x.fst.snd.fst (Int.toNat x_2.snd) (Ty.zero FatT)).snd.fst) : Int) (1000 : Int))) (IntKind.wrap IntKind.i64 (x_2.snd + (1 : Int)))) ∧ Wr ((101 : Nat) - Int.toNat
  (IntKind.wrap IntKind.i64 (x_2.snd + (1 : Int))) < (101 : Nat) - Int.toNat x_2.snd) ∧ Wr (IntKind.wrap IntKind.i64 (x_2.fst + Min.min (↑(List.length (List.getD x.fst.snd.fst (Int.toNat x_2.snd) (Ty.zero FatT)).snd.fst)
  : Int) (1000 : Int)) = IntKind.wrap IntKind.i64 (x_2.fst + Min.min (↑(List.length (List.getD x.fst.snd.fst (Int.toNat x_2.snd) (Ty.zero FatT)).snd.fst) : Int) (1000 : Int))) ∧ Wr (IntKind.wrap IntKind.i64 (x_2.snd + (1
  : Int)) = IntKind.wrap IntKind.i64 (x_2.snd + (1 : Int))) ∧ Wr (Bool.false = Bool.false) ∧ Wr (x.fst.fst = x.fst.fst) ∧ Wr (x.fst.snd.fst = x.fst.snd.fst) ∧ Wr (x.fst.snd.snd.fst = x.fst.snd.snd.fst) ∧ Wr
  (x.fst.snd.snd.snd.fst = x.fst.snd.snd.snd.fst)) ((Decidable.decide ((↑(List.length x.fst.fst) : Int) > (40 : Int)) || Decidable.decide ((↑(List.length x.fst.snd.fst) : Int) > (100 : Int)) || Decidable.decide (x_2.fst >
  (3000 : Int)), ()) = (greatP x.fst, ())))) := by kernel_rfl
theorem v34_eq : vcFn g34 300 Tryz.f34 cGreatS = ( ∀ (x : List ((Int × (Int × Int × Int × Int × Int × Int × Int × Int × Unit) × Int × Unit) × Int × Int × Int × Bool × Unit) × List (Bool × Int × Int × Unit) × Unit), Wr (Bool.true = Bool.true) → (Decidable.decide
  ((↑(List.length x.fst) : Int) > (300 : Int)) || Decidable.decide ((↑(List.length x.snd.fst) : Int) > (600 : Int)), ()) = (greatS x.fst x.snd.fst, ())) := by kernel_rfl
theorem v8_eq : vcFn g8 300 Tryz.f8 cGreatW = ( ∀ (x : ((List (ByteArray × List (List (Int × (Int × Int × Int × Int × Int × Int × Int × Int × Unit) × Int × Unit)) × Unit) × List ((Int × (Int × Int × Int × Int × Int × Int × Int × Int × Unit) × Int × Unit) × List Int ×
  Unit) × Int × List Int × Unit) × Int × List ((Int × (Int × Int × Int × Int × Int × Int × Int × Int × Unit) × Int × Unit) × Int × Int × Int × Bool × Unit) × List (Int × (Int × (Int × Int × Int × Int × Int × Int × Int ×
  Int × Unit) × Int × Unit) × Int × Bool × Bool × Unit) × List (Int × ByteArray × Int × Bool × Unit) × Int × List (Bool × Int × Int × Unit) × Unit) × Unit), Wr (okR x.fst.fst = Bool.true) → Wr (okR x.fst.fst = Bool.true)
  ∧ Wr ((!greatP x.fst.fst) = Bool.true → Bool.true = Bool.true) ∧ (greatP x.fst.fst || greatS x.fst.snd.snd.fst x.fst.snd.snd.snd.snd.snd.snd.fst || Decidable.decide ((↑(List.length x.fst.snd.snd.snd.fst) : Int) > (400 :
  Int)) || Decidable.decide ((↑(List.length x.fst.snd.snd.snd.snd.fst) : Int) > (400 : Int)), ()) = (greatW x.fst, ())) := by kernel_rfl
theorem v3_eq : vcFn g3 300 Tryz.f3 ((cLs aPlans)) = ( ∀ (x : (List (ByteArray × List (List (Int × (Int × Int × Int × Int × Int × Int × Int × Int × Unit) × Int × Unit)) × Unit) × List ((Int × (Int × Int × Int × Int × Int × Int × Int × Int × Unit) × Int × Unit) × List Int ×
  Unit) × Int × List Int × Unit) × ((List (ByteArray × List (List (Int × (Int × Int × Int × Int × Int × Int × Int × Int × Unit) × Int × Unit)) × Unit) × List ((Int × (Int × Int × Int × Int × Int × Int × Int × Int × Unit)
  × Int × Unit) × List Int × Unit) × Int × List Int × Unit) × Int × List ((Int × (Int × Int × Int × Int × Int × Int × Int × Int × Unit) × Int × Unit) × Int × Int × Int × Bool × Unit) × List (Int × (Int × (Int × Int × Int
  × Int × Int × Int × Int × Int × Unit) × Int × Unit) × Int × Bool × Bool × Unit) × List (Int × ByteArray × Int × Bool × Unit) × Int × List (Bool × Int × Int × Unit) × Unit) × Unit), Wr (Bnd aPlans x) → Wr (okR x.fst =
  Bool.true) ∧ Wr ((!greatP x.fst) = Bool.true → okR x.snd.fst.fst = Bool.true) ∧ bcase (greatP x.fst || greatW x.snd.fst) (Wr True ∧ (Bool.true, ()) = (Bool.true, ())) (Wr (Bool.true = Bool.true) ∧ Wr (okQ x.fst =
  Bool.true) ∧ Wr (newW x.fst = newW x.fst ∧ SmW (newW x.fst)) ∧ bcase (!Bool.true || !Decidable.decide (check x.fst = check x.fst)) ((Bool.false, ()) = (Bool.true, ())) (Wr (Bool.true = Bool.true) ∧ Wr (Bool.true =
  Bool.true) ∧ Wr (tickW x.snd.fst = tickW x.snd.fst ∧ SmW (tickW x.snd.fst)) ∧ bcase (!Bool.true || !Decidable.decide (tickE x.snd.fst = tickE x.snd.fst)) ((Bool.false, ()) = (Bool.true, ())) (Wr (okN
  x.snd.fst.snd.snd.fst = Bool.true) ∧ Wr (okN x.snd.fst.snd.snd.fst = Bool.true) ∧ Wr (dropW x.snd.fst = dropW x.snd.fst ∧ SmW (dropW x.snd.fst)) ∧ Wr ((Bool.true && Decidable.decide (dropE x.snd.fst = dropE x.snd.fst))
  = Bool.true → True) ∧ (Bool.true && Decidable.decide (dropE x.snd.fst = dropE x.snd.fst) && Bool.true, ()) = (Bool.true, ()))))) := by kernel_rfl
end Go.Proofs.YtfhlceooobabcaaGreatDoor.Wd
set_option linter.all false
namespace Go.Proofs.YtfhlceooobabcaaGreatDoor.Wd
open Go Go.Eng Go.Lb Go.Ad
set_option maxRecDepth 100000
set_option maxHeartbeats 8000000
theorem v151 : Vc g151 300 Tryz.f151 cLetter := by
  constructor
  rw [v151_eq]
  simp only [Wr_iff, bcase_iff, true_and, and_true, decide_eq_true_eq, decide_eq_false_iff_not, Bool.and_eq_true, Bool.and_eq_false_iff, Bool.or_eq_true, Bool.or_eq_false_iff, Bool.not_eq_true', Bool.not_eq_false', Option.map_some, Option.getD_some, Option.isSome_some, Option.isSome_map, imp_self, nilL, noneO]
  intro x
  generalize x.fst = n
  intro _
  simp only [Prod.mk.injEq, and_true, letterZ, isLetter]
  rw [Bool.eq_iff_iff]
  simp only [Bool.and_eq_true, Bool.or_eq_true, decide_eq_true_eq, Bool.not_eq_true', decide_eq_false_iff_not]
  omega
theorem sign_lem2 (n : Int) : (letterZ n || decide (n ≥ 48) && decide (n ≤ 57) || decide (n = 45)) = signZ n := by
  rw [← sign_lem]
  cases letterZ n <;> cases decide (n = 45) <;> simp
theorem v171 : Vc g171 300 Tryz.f171 cSign := by
  constructor
  rw [v171_eq]
  simp only [Wr_iff, bcase_iff, true_and, and_true, decide_eq_true_eq, decide_eq_false_iff_not, Bool.and_eq_true, Bool.and_eq_false_iff, Bool.or_eq_true, Bool.or_eq_false_iff, Bool.not_eq_true', Bool.not_eq_false', Option.map_some, Option.getD_some, Option.isSome_some, Option.isSome_map, imp_self, nilL, noneO]
  intro x
  generalize x.fst = n
  intro _
  simp only [Prod.mk.injEq, and_true]
  exact sign_lem2 n

theorem dec_w {l : List UInt8} {c w : Nat} (h : dec l = some (c, w)) : c ≤ 1114111 ∧ ((c < 128 ∧ w = 1) ∨ (128 ≤ c ∧ c < 2048 ∧ w = 2) ∨ 2048 ≤ c) := by
  match l with
  | [] => simp [dec] at h
  | b :: r =>
    unfold dec at h
    simp only at h
    split at h
    · simp only [Option.some.injEq, Prod.mk.injEq] at h; omega
    · split at h
      · split at h
        · split at h
          · rename_i b1 _ hh
            simp only [Option.some.injEq, Prod.mk.injEq] at h
            have : u2 b b1 = b.toNat % 32 * 64 + b1.toNat % 64 := rfl
            omega
          · cases h
        · cases h
      · have ok : ∀ n, okRune n = true → n ≤ 1114111 := by
          intro n hn; unfold okRune at hn; simp only [Bool.or_eq_true, Bool.and_eq_true, decide_eq_true_eq] at hn; omega
        split at h
        · split at h
          · split at h
            · rename_i hh
              simp only [Option.some.injEq, Prod.mk.injEq] at h
              have := ok _ hh.2.2.2
              have := hh.2.2.1
              omega
            · cases h
          · cases h
        · split at h
          · split at h
            · split at h
              · rename_i hh
                simp only [Option.some.injEq, Prod.mk.injEq] at h
                have := ok _ hh.2.2.2.2
                have := hh.2.2.2.1
                omega
              · cases h
            · cases h
          · cases h
theorem one_cases {s : ByteArray} {p : Nat} (h : p < s.size) : (one2 (subS s p s.size) = 0 ∧ (hd1 (restL s p)).1 = none ∧ nextP s p = p + 1) ∨
    ∃ c w : Nat, one1 (subS s p s.size) = c ∧ one2 (subS s p s.size) = w ∧ (hd1 (restL s p)).1 = some c ∧ nextP s p = p + w ∧ dec (restL s p) = some (c, w) ∧ c ≤ 1114111 ∧ 1 ≤ w := by
  unfold one1 one2
  rw [bytesL_from]
  cases hd : dec (restL s p) with
  | none =>
    refine .inl ⟨rfl, by unfold hd1; rw [hd], ?_⟩
    rw [nextP_eq h]; unfold wid; rw [hd]
  | some q =>
    obtain ⟨c, w⟩ := q
    refine .inr ⟨c, w, rfl, rfl, by unfold hd1; rw [hd], ?_, rfl, (dec_w hd).1, (dec_le hd).1⟩
    rw [nextP_eq h]; unfold wid; rw [hd]
theorem subS_ok {s : ByteArray} {p : Nat} (hs : s.size ≤ 4000000000) (h : p < s.size) : szOk (subS s p s.size) = true ∧ 0 < (subS s p s.size).size := by
  rw [szOk_iff, size_bytesL, bytesL_from, restL_length]
  omega
theorem subS_ok' {s : ByteArray} {p q : Nat} (hs : s.size ≤ 4000000000) : szOk (subS s p q) = true := by
  rw [szOk_iff, size_bytesL, bytesL_sub, List.length_drop, List.length_take, ← size_bytesL]
  omega

theorem validB_eq {s : ByteArray} (h1 : s.size ≤ 64) : validB s = vRest s 0 true 46 := by
  rw [validB_small h1, split_all]
  exact (vGo_split _).symm
theorem validB_nil {s : ByteArray} (h1 : s.size < 1) : validB s = false := by
  rw [validB_eq (by omega)]
  unfold vRest
  rw [restL_end (by omega)]
  rfl
theorem vRest_end {s : ByteArray} {p : Int} {st : Bool} {la : Int} (h : (s.size : Int) ≤ p) (h0 : 0 ≤ la) : vRest s p st la = (!st && !decide (la = 45)) := by
  unfold vRest
  rw [restL_end (by omega), its_nil, vGo]
  congr 1
  rw [Bool.eq_iff_iff]
  simp only [decide_eq_true_eq, Bool.not_eq_true', decide_eq_false_iff_not]
  omega
theorem vRest_none {s : ByteArray} {p : Nat} {st : Bool} {la : Int} (h : p < s.size) (hd : (hd1 (restL s p)).1 = none) : vRest s p st la = false := by
  unfold vRest
  simp only [Int.toNat_natCast]
  rw [its_rest h, vGo, hd]
theorem vRest_some {s : ByteArray} {p : Nat} {st : Bool} {la : Int} {c : Nat} (h : p < s.size) (hd : (hd1 (restL s p)).1 = some c) (h0 : 0 ≤ la) :
    vRest s p st la = if c = 46 then (if st = true ∨ la = 45 then false else vRest s (nextP s p) true c) else if isSign c = false ∨ (st = true ∧ c = 45) then false else vRest s (nextP s p) false c := by
  unfold vRest
  simp only [Int.toNat_natCast]
  rw [its_rest h, vGo, hd]
  simp only
  split
  · congr 1
    simp only [Bool.or_eq_true, decide_eq_true_eq, eq_iff_iff]
    exact or_congr Iff.rfl (by omega)
  · congr 1
    simp only [Bool.or_eq_true, Bool.and_eq_true, decide_eq_true_eq, eq_iff_iff, Bool.not_eq_true']
theorem v149 : Vc g149 300 Tryz.f149 cValid1 := by
  constructor
  rw [v149_eq]
  simp only [Wr_iff, bcase_iff, true_and, and_true, decide_eq_true_eq, decide_eq_false_iff_not, Bool.and_eq_true, Bool.and_eq_false_iff, Bool.or_eq_true, Bool.or_eq_false_iff, Bool.not_eq_true', Bool.not_eq_false', Option.map_some, Option.getD_some, Option.isSome_some, Option.isSome_map, imp_self, nilL, noneO]
  intro x
  generalize x.fst = s
  intro hs
  rw [szOk_iff] at hs
  refine ⟨fun h => ?_, fun h64 => ⟨⟨by omega, by omega, by omega, by omega, rfl⟩, fun y hy => ⟨fun hp => ?_, fun hp => ?_⟩⟩⟩
  · have : validB s = false := by
      rcases h with h | h
      · exact validB_nil (by omega)
      · exact validB_great (by omega)
    rw [this]
  · obtain ⟨g1, g2, g3, g4, g5⟩ := hy
    rw [← validB_eq (by omega)] at g5
    obtain ⟨ya, yb, yc⟩ := y
    simp only at g1 g2 g3 g4 g5 hp ⊢
    obtain ⟨p, rfl⟩ : ∃ p : Nat, yc = p := ⟨yc.toNat, by omega⟩
    have hp' : p < s.size := by omega
    simp only [Int.toNat_natCast] at *
    have hn := nextP_le hp'
    refine ⟨by omega, by omega, by omega, subS_ok hs hp', fun h => ?_, fun h => ?_⟩
    · rcases one_cases hp' with ⟨_, h2, h3⟩ | ⟨c, w, _, h2, _, _, _, _, h1⟩
      · rw [vRest_none hp' h2] at g5
        rw [← g5]
      · omega
    · rcases one_cases hp' with ⟨h2, _⟩ | ⟨c, w, hc, h2, h3, h4, _, hc2, h1⟩
      · omega
      · rw [vRest_some hp' h3 g1] at g5
        rw [hc, h2, w64 (n := (p : Int) + w) (by omega) (by omega)]
        have e : ((p : Int) + w) = (nextP s p : Int) := by omega
        rw [e]
        have on : ∀ st', vRest s (nextP s p) st' c = validB s → ValidI s st' c (nextP s p) ∧ s.size - ((nextP s p : Int)).toNat < s.size - p := by
          intro st' hq
          exact ⟨⟨by omega, by omega, by omega, by omega, by rw [← validB_eq (by omega)]; exact hq⟩, by omega⟩
        have hsg : signZ (c : Int) = isSign c := by unfold signZ; simp
        rw [hsg]
        refine ⟨fun h => ⟨fun h' => ?_, fun h' => on _ ?_⟩, fun h => ⟨fun h' => ?_, fun h' => on _ ?_⟩⟩
        · rw [if_pos (by omega), if_pos h'] at g5
          rw [← g5]
        · rw [if_pos (by omega), if_neg (by rw [h'.1]; simp; exact h'.2)] at g5
          exact g5
        · rw [if_neg (by omega), if_pos (by rcases h' with h' | h'; exact .inl h'; exact .inr ⟨h'.1, by omega⟩)] at g5
          rw [← g5]
        · rw [if_neg (by omega), if_neg (by
            rintro (h2 | h2)
            · rw [h'.1] at h2; cases h2
            · rcases h'.2 with h3 | h3
              · rw [h2.1] at h3; cases h3
              · omega)] at g5
          exact g5
  · have h2 := vRest_end (s := s) (p := y.snd.snd) (st := y.fst) (la := y.snd.fst) (by omega) hy.l0
    rw [hy.a, ← validB_eq (by omega)] at h2
    rw [h2]
/-! the last colon -/
theorem w32 {n : Int} (h0 : 0 ≤ n) (h1 : n ≤ 2147483647) : IntKind.wrap .i32 n = n := by
  simp [IntKind.wrap, IntKind.signed, IntKind.bits]; omega
theorem byte_bd (s : ByteArray) (i : Nat) : 0 ≤ byteAt s i ∧ byteAt s i < 256 := by
  rw [byteAt_eq]
  have := ((bytesL s).getD i 0).toNat_lt
  omega
theorem and_all : ((List.range 256).all fun x => decide (andI .u8 (x : Int) 31 = ((x % 32 : Nat) : Int)) && decide (andI .u8 (x : Int) 15 = ((x % 16 : Nat) : Int)) && decide (andI .u8 (x : Int) 7 = ((x % 8 : Nat) : Int)) &&
    decide (andI .u8 (x : Int) 63 = ((x % 64 : Nat) : Int)) && decide (andI .u8 (x : Int) 192 = ((x / 64 * 64 : Nat) : Int))) = true := by decide +kernel
theorem and_byte (s : ByteArray) (i : Nat) : andI .u8 (byteAt s i) 31 = byteAt s i % 32 ∧ andI .u8 (byteAt s i) 15 = byteAt s i % 16 ∧ andI .u8 (byteAt s i) 7 = byteAt s i % 8 ∧
    andI .u8 (byteAt s i) 63 = byteAt s i % 64 ∧ andI .u8 (byteAt s i) 192 = byteAt s i / 64 * 64 := by
  have h := byte_bd s i
  obtain ⟨n, hn⟩ : ∃ n : Nat, byteAt s i = n := ⟨(byteAt s i).toNat, by omega⟩
  have := List.all_eq_true.1 and_all n (List.mem_range.2 (by omega))
  simp only [Bool.and_eq_true, decide_eq_true_eq] at this
  obtain ⟨⟨⟨⟨h1, h2⟩, h3⟩, h4⟩, h5⟩ := this
  rw [hn, h1, h2, h3, h4, h5]
  omega
structure OneR (s : ByteArray) (n x0 x1 x2 x3 a b : Int) : Prop where
  c1 : x0 < 128 → a = x0 ∧ b = 1
  c2 : x0 / 32 = 6 → ((2 ≤ n ∧ x1 / 64 = 2 ∧ 128 ≤ x0 % 32 * 64 + x1 % 64) ∧ a = x0 % 32 * 64 + x1 % 64 ∧ b = 2) ∨ (¬ (2 ≤ n ∧ x1 / 64 = 2 ∧ 128 ≤ x0 % 32 * 64 + x1 % 64) ∧ a = 0 ∧ b = 0)
  c3 : x0 / 16 = 14 → ((3 ≤ n ∧ x1 / 64 = 2 ∧ x2 / 64 = 2 ∧ 2048 ≤ x0 % 16 * 4096 + x1 % 64 * 64 + x2 % 64 ∧ (x0 % 16 * 4096 + x1 % 64 * 64 + x2 % 64 < 55296 ∨ 57344 ≤ x0 % 16 * 4096 + x1 % 64 * 64 + x2 % 64)) ∧ a = x0 % 16 * 4096 + x1 % 64 * 64 + x2 % 64 ∧ b = 3) ∨
    (¬ (3 ≤ n ∧ x1 / 64 = 2 ∧ x2 / 64 = 2 ∧ 2048 ≤ x0 % 16 * 4096 + x1 % 64 * 64 + x2 % 64 ∧ (x0 % 16 * 4096 + x1 % 64 * 64 + x2 % 64 < 55296 ∨ 57344 ≤ x0 % 16 * 4096 + x1 % 64 * 64 + x2 % 64)) ∧ a = 0 ∧ b = 0)
  c4 : x0 / 8 = 30 → ((4 ≤ n ∧ x1 / 64 = 2 ∧ x2 / 64 = 2 ∧ x3 / 64 = 2 ∧ 65536 ≤ x0 % 8 * 262144 + x1 % 64 * 4096 + x2 % 64 * 64 + x3 % 64 ∧ x0 % 8 * 262144 + x1 % 64 * 4096 + x2 % 64 * 64 + x3 % 64 ≤ 1114111) ∧ a = x0 % 8 * 262144 + x1 % 64 * 4096 + x2 % 64 * 64 + x3 % 64 ∧ b = 4) ∨
    (¬ (4 ≤ n ∧ x1 / 64 = 2 ∧ x2 / 64 = 2 ∧ x3 / 64 = 2 ∧ 65536 ≤ x0 % 8 * 262144 + x1 % 64 * 4096 + x2 % 64 * 64 + x3 % 64 ∧ x0 % 8 * 262144 + x1 % 64 * 4096 + x2 % 64 * 64 + x3 % 64 ≤ 1114111) ∧ a = 0 ∧ b = 0)
  c5 : 128 ≤ x0 → x0 / 32 ≠ 6 → x0 / 16 ≠ 14 → x0 / 8 ≠ 30 → a = 0 ∧ b = 0
theorem oneR (s : ByteArray) (h : 0 < s.size) : OneR s s.size (byteAt s 0) (byteAt s 1) (byteAt s 2) (byteAt s 3) (one1 s) (one2 s) := by
  have g : ∀ (b : UInt8) (r : List UInt8), bytesL s = b :: r → OneR s s.size (byteAt s 0) (byteAt s 1) (byteAt s 2) (byteAt s 3) (one1 s) (one2 s) := by
    intro b r hb
    have hz := size_bytesL s
    rw [hb, List.length_cons] at hz
    have cont_iff : ∀ x : UInt8, cont x = true ↔ x.toNat / 64 = 2 := by intro x; unfold cont; simp
    have ok_iff : ∀ n : Nat, okRune n = true ↔ (n < 55296 ∨ (57344 ≤ n ∧ n ≤ 1114111)) := by intro n; unfold okRune; simp
    unfold one1 one2
    rw [byteAt_eq, byteAt_eq, byteAt_eq, byteAt_eq, hb]
    have lb := b.toNat_lt
    unfold dec
    simp only [List.getD_cons_zero, List.getD_cons_succ]
    by_cases k1 : b.toNat < 128
    · rw [if_pos k1]
      simp only [Option.map_some, Option.getD_some]
      exact ⟨fun _ => ⟨rfl, rfl⟩, fun h => by omega, fun h => by omega, fun h => by omega, fun h => by omega⟩
    rw [if_neg k1]
    by_cases k2 : b.toNat / 32 = 6
    · rw [if_pos k2]
      match r, hz with
      | [], hz =>
        refine ⟨fun h => by omega, fun _ => .inr ⟨fun h => ?_, rfl, rfl⟩, fun h => by omega, fun h => by omega, fun h => by omega⟩
        simp at hz; omega
      | b1 :: r, hz =>
        rw [List.length_cons] at hz
        simp only [List.getD_cons_zero, cont_iff]
        have e : u2 b b1 = b.toNat % 32 * 64 + b1.toNat % 64 := rfl
        by_cases k : b1.toNat / 64 = 2 ∧ 128 ≤ u2 b b1
        · rw [if_pos k]
          simp only [Option.map_some, Option.getD_some]
          refine ⟨fun h => by omega, fun _ => .inl (by omega), fun h => by omega, fun h => by omega, fun h => by omega⟩
        · rw [if_neg k]
          refine ⟨fun h => by omega, fun _ => .inr ⟨fun h => k (by omega), rfl, rfl⟩, fun h => by omega, fun h => by omega, fun h => by omega⟩
    rw [if_neg k2]
    by_cases k3 : b.toNat / 16 = 14
    · rw [if_pos k3]
      match r, hz with
      | [], hz =>
        refine ⟨fun h => by omega, fun _ => by omega, fun h => .inr ⟨fun h => ?_, rfl, rfl⟩, fun h => by omega, fun h => by omega⟩
        simp at hz; omega
      | [_], hz =>
        refine ⟨fun h => by omega, fun _ => by omega, fun h => .inr ⟨fun h => ?_, rfl, rfl⟩, fun h => by omega, fun h => by omega⟩
        simp at hz; omega
      | b1 :: b2 :: r, hz =>
        rw [List.length_cons, List.length_cons] at hz
        simp only [List.getD_cons_zero, List.getD_cons_succ, cont_iff, ok_iff]
        have e : u3 b b1 b2 = b.toNat % 16 * 4096 + b1.toNat % 64 * 64 + b2.toNat % 64 := rfl
        rw [e]
        split
        · rename_i k
          simp only [Option.map_some, Option.getD_some]
          refine ⟨fun h => by omega, fun _ => by omega, fun h => .inl ⟨by omega, by omega, rfl⟩, fun h => by omega, fun h => by omega⟩
        · rename_i k
          refine ⟨fun h => by omega, fun _ => by omega, fun h => .inr ⟨fun h => k (by omega), rfl, rfl⟩, fun h => by omega, fun h => by omega⟩
    rw [if_neg k3]
    by_cases k4 : b.toNat / 8 = 30
    · rw [if_pos k4]
      match r, hz with
      | [], hz =>
        refine ⟨fun h => by omega, fun _ => by omega, fun h => by omega, fun h => .inr ⟨fun h => ?_, rfl, rfl⟩, fun h => by omega⟩
        simp at hz; omega
      | [_], hz =>
        refine ⟨fun h => by omega, fun _ => by omega, fun h => by omega, fun h => .inr ⟨fun h => ?_, rfl, rfl⟩, fun h => by omega⟩
        simp at hz; omega
      | [_, _], hz =>
        refine ⟨fun h => by omega, fun _ => by omega, fun h => by omega, fun h => .inr ⟨fun h => ?_, rfl, rfl⟩, fun h => by omega⟩
        simp at hz; omega
      | b1 :: b2 :: b3 :: r, hz =>
        rw [List.length_cons, List.length_cons, List.length_cons] at hz
        simp only [List.getD_cons_zero, List.getD_cons_succ, cont_iff, ok_iff]
        have e : u4 b b1 b2 b3 = b.toNat % 8 * 262144 + b1.toNat % 64 * 4096 + b2.toNat % 64 * 64 + b3.toNat % 64 := rfl
        rw [e]
        split
        · rename_i k
          simp only [Option.map_some, Option.getD_some]
          refine ⟨fun h => by omega, fun _ => by omega, fun h => by omega, fun h => .inl ⟨by omega, by omega, rfl⟩, fun h => by omega⟩
        · rename_i k
          refine ⟨fun h => by omega, fun _ => by omega, fun h => by omega, fun h => .inr ⟨fun h => k (by omega), rfl, rfl⟩, fun h => by omega⟩
    rw [if_neg k4]
    exact ⟨fun h => by omega, fun _ => by omega, fun h => by omega, fun h => by omega, fun _ _ _ _ => ⟨rfl, rfl⟩⟩
  cases hb : bytesL s with
  | nil => rw [size_bytesL, hb] at h; simp at h
  | cons b r => exact g b r hb
theorem v150 : Vc g150 300 Tryz.f150 cOne := by
  constructor
  rw [v150_eq]
  simp only [Wr_iff, bcase_iff, true_and, and_true, decide_eq_true_eq, decide_eq_false_iff_not, Bool.and_eq_true, Bool.and_eq_false_iff, Bool.or_eq_true, Bool.or_eq_false_iff, Bool.not_eq_true', Bool.not_eq_false', Option.map_some, Option.getD_some, Option.isSome_some, Option.isSome_map, imp_self, nilL, noneO]
  intro x
  generalize x.fst = s
  rintro ⟨hs, h0⟩
  rw [szOk_iff] at hs
  have t0 : Int.toNat 0 = 0 := rfl
  have t1 : Int.toNat 1 = 1 := rfl
  have t2 : Int.toNat 2 = 2 := rfl
  have t3 : Int.toNat 3 = 3 := rfl
  obtain ⟨a1, a2, a3, a4, a5⟩ := and_byte s 0
  obtain ⟨b1, b2, b3, b4, b5⟩ := and_byte s 1
  obtain ⟨c1, c2, c3, c4, c5⟩ := and_byte s 2
  obtain ⟨d1, d2, d3, d4, d5⟩ := and_byte s 3
  have hb0 := byte_bd s 0
  have hb1 := byte_bd s 1
  have hb2 := byte_bd s 2
  have hb3 := byte_bd s 3
  obtain ⟨o1, o2, o3, o4, o5⟩ := oneR s h0
  have k1 : IntKind.wrap .i64 (1 + 1) = 2 := by decide
  have k2 : IntKind.wrap .i64 (2 + 1) = 3 := by decide
  have k3 : IntKind.wrap .i64 (3 + 1) = 4 := by decide
  simp only [k1, k2, k3, t0, t1, t2, t3]
  simp only [a1, a2, a3, a4, a5, b1, b2, b3, b4, b5, c1, c2, c3, c4, c5, d1, d2, d3, d4, d5, Prod.mk.injEq, and_true]
  generalize byteAt s 0 = x0 at *
  generalize byteAt s 1 = x1 at *
  generalize byteAt s 2 = x2 at *
  generalize byteAt s 3 = x3 at *
  generalize one1 s = p at *
  generalize one2 s = q at *
  clear a1 a2 a3 a4 a5 b1 b2 b3 b4 b5 c1 c2 c3 c4 c5 d1 d2 d3 d4 d5
  simp (disch := omega) only [w32]
  clear k1 k2 k3 t0 t1 t2 t3
  have hn : 0 < (s.size : Int) := by omega
  generalize (s.size : Int) = n at *
  clear h0 hs
  repeat' (first | with_reducible apply And.intro | intro _)
  all_goals omega
theorem vGo_good : ∀ (I : List It) (st : Bool) (la : Nat), vGo I st la = true → ∀ q ∈ I, goodIt q
  | [], _, _, _ => fun q hq => by cases hq
  | p :: I, st, la, h => by
    intro q hq
    rw [vGo] at h
    cases hp : p.1 with
    | none => rw [hp] at h; cases h
    | some c =>
      rw [hp] at h
      simp only at h
      split at h
      · rename_i hc
        split at h
        · cases h
        · rcases List.mem_cons.1 hq with rfl | hq
          · exact ⟨c, hp, .inr hc⟩
          · exact vGo_good I _ _ h q hq
      · split at h
        · cases h
        · rename_i hb
          rcases List.mem_cons.1 hq with rfl | hq
          · refine ⟨c, hp, .inl ?_⟩
            simp only [Bool.or_eq_true, Bool.not_eq_true', not_or, Bool.not_eq_false] at hb
            exact hb.1
          · exact vGo_good I _ _ h q hq
theorem valid_items {s : ByteArray} (h : validB s = true) : ∀ q ∈ its (bytesL s), goodIt q := by
  have := valid_size h
  rw [validB_eq this] at h
  exact vGo_good _ _ _ h
theorem good_le {q : It} (h : goodIt q) : ∃ c, q.1 = some c ∧ c ≤ 591 ∧ c ≠ 215 := by
  obtain ⟨c, h1, h2⟩ := h
  refine ⟨c, h1, ?_⟩
  rcases h2 with h2 | rfl
  · unfold isSign isLetter at h2
    simp only [Bool.or_eq_true, Bool.and_eq_true, decide_eq_true_eq] at h2
    omega
  · omega
theorem FoldI.on {s : ByteArray} {out add : List Int} {p w : Nat} (h : FoldI s out p) (hp : p < s.size) (hw : nextP s p = p + w) (hl : add.length ≤ 4 * w)
    (ha : (add.map fun n => UInt8.ofNat n.toNat) = foldIt (hd1 (restL s p))) : FoldI s (out ++ add) ((p : Int) + w) ∧ s.size - ((p : Int) + w).toNat < s.size - p := by
  obtain ⟨g1, g2, g3, g4, g5, g6⟩ := h
  have hn := nextP_le hp
  have e1 : ((p : Int) + w).toNat = nextP s p := by omega
  simp only [Int.toNat_natCast] at g4 g5 g6
  refine ⟨⟨g1, by omega, by omega, ?_, ?_, ?_⟩, by omega⟩
  · rw [e1, List.length_append]; omega
  · rw [e1]
    intro q hq
    exact g5 q (by rw [its_rest hp]; exact List.mem_cons_of_mem _ hq)
  · rw [e1, List.map_append, ha, List.append_assoc, ← foldL_rest hp]
    exact g6
theorem or_all : ((List.range 31).all fun i => decide (orI .u8 192 (IntKind.wrap .u8 ((IntKind.wrap .i32 (((192 + i : Nat) : Int) + 32)).fdiv (2 ^ min (Int.toNat 6) (IntKind.bits .i32)))) = ((192 + (224 + i) / 64 : Nat) : Int)) &&
    decide (orI .u8 128 (IntKind.wrap .u8 (andI .i32 (IntKind.wrap .i32 (((192 + i : Nat) : Int) + 32)) 63)) = ((128 + (224 + i) % 64 : Nat) : Int))) = true := by decide +kernel
theorem or_two {c : Nat} (h0 : 192 ≤ c) (h1 : c ≤ 222) : orI .u8 192 (IntKind.wrap .u8 ((IntKind.wrap .i32 ((c : Int) + 32)).fdiv (2 ^ min (Int.toNat 6) (IntKind.bits .i32)))) = ((192 + (c + 32) / 64 : Nat) : Int) ∧
    orI .u8 128 (IntKind.wrap .u8 (andI .i32 (IntKind.wrap .i32 ((c : Int) + 32)) 63)) = ((128 + (c + 32) % 64 : Nat) : Int) := by
  obtain ⟨i, rfl⟩ : ∃ i, c = 192 + i := ⟨c - 192, by omega⟩
  have := List.all_eq_true.1 or_all i (List.mem_range.2 (by omega))
  simp only [Bool.and_eq_true, decide_eq_true_eq] at this
  have e : 192 + i + 32 = 224 + i := by omega
  rw [e]
  exact this
theorem enc_one {n : Nat} (h : n ≤ 127) : Go.Lib.encodeRune (n : Int) = [UInt8.ofNat n] := by
  unfold Go.Lib.encodeRune
  rw [Go.Lib.encodeRuneZ_one (by omega) (by omega)]
  rfl
theorem enc_two {n : Nat} (h0 : 128 ≤ n) (h : n ≤ 2047) : Go.Lib.encodeRune (n : Int) = [UInt8.ofNat (192 + n / 64), UInt8.ofNat (128 + n % 64)] := by
  unfold Go.Lib.encodeRune
  rw [Go.Lib.encodeRuneZ_two (by omega) (by omega)]
  rfl
theorem bytesI_map (s : ByteArray) : ((bytesI s).map fun n => UInt8.ofNat n.toNat) = bytesL s := by
  unfold bytesI bytesL
  rw [List.map_map]
  conv => rhs; rw [← List.map_id s.data.toList]
  congr 1
  funext b
  simp
theorem v128 : Vc g128 300 Tryz.f128 cFoldR := by
  constructor
  rw [v128_eq]
  simp only [Wr_iff, bcase_iff, true_and, and_true, decide_eq_true_eq, decide_eq_false_iff_not, Bool.and_eq_true, Bool.and_eq_false_iff, Bool.or_eq_true, Bool.or_eq_false_iff, Bool.not_eq_true', Bool.not_eq_false', Option.map_some, Option.getD_some, Option.isSome_some, Option.isSome_map, imp_self, nilL, noneO]
  intro x
  generalize x.fst = s
  intro hs
  have hs' := hs
  rw [szOk_iff] at hs
  refine ⟨hs', fun h => by rw [fold1, fold2, h]; rfl, fun hv => ⟨⟨hv, by omega, by omega, by simp, valid_items hv, rfl⟩, fun y hy => ?_⟩⟩
  have h64 := valid_size hv
  obtain ⟨out, p⟩ := y
  simp only at hy ⊢
  obtain ⟨p, rfl⟩ : ∃ q : Nat, p = q := ⟨p.toNat, by have := hy.p0; omega⟩
  have hlen := hy.n
  have hp1 := hy.p1
  simp only [Int.toNat_natCast] at *
  refine ⟨fun hp => ?_, fun hp => ?_⟩
  · have hp' : p < s.size := by omega
    have hg := hy.g (hd1 (restL s p)) (by simp only [Int.toNat_natCast]; rw [its_rest hp']; exact List.mem_cons_self)
    obtain ⟨c', hc', hle, h215⟩ := good_le hg
    rcases one_cases hp' with ⟨_, h2, _⟩ | ⟨c, w, h1, h2, h3, h4, h5, _, h6⟩
    · rw [h2] at hc'; cases hc'
    obtain rfl : c = c' := by rw [h3] at hc'; exact Option.some.inj hc'
    have hdw := (dec_w h5).2
    have hnl := nextP_le hp'
    have hfi : foldIt (hd1 (restL s p)) = Go.Lib.encodeRune ((foldC c : Nat) : Int) := by unfold foldIt; rw [h3]; rfl
    rw [h1, h2, w64 (n := (p : Int) + w) (by omega) (by omega)]
    refine ⟨by omega, by omega, by omega, subS_ok hs hp', fun h => ?_, fun h => ⟨fun _ => trivial, fun h' => ?_, fun h' => ?_⟩⟩
    · rw [w32 (n := (c : Int) + 32) (by omega) (by omega)]
      have e8 : IntKind.wrap .u8 ((c : Int) + 32) = ((c + 32 : Nat) : Int) := by simp [IntKind.wrap, IntKind.signed, IntKind.bits]; omega
      rw [e8]
      refine ⟨by simp; omega, hy.on hp' h4 (by simp; omega) ?_⟩
      have hf : foldC c = c + 32 := by unfold foldC; rw [if_pos (by omega)]
      rw [hfi, hf, enc_one (by omega)]
      rfl
    · obtain ⟨q1, q2⟩ := or_two (c := c) (by omega) (by omega)
      rw [q1, q2]
      refine ⟨by omega, by simp; omega, hy.on hp' h4 (by simp; omega) ?_⟩
      have hf : foldC c = c + 32 := by unfold foldC; rw [if_pos (by omega)]
      rw [hfi, hf, enc_two (by omega) (by omega)]
      rfl
    · have hnf : ¬ ((65 ≤ c ∧ c ≤ 90) ∨ (0xC0 ≤ c ∧ c ≤ 0xDE)) := by
        rintro (hq | hq)
        · omega
        · rcases h' with h' | h'
          · omega
          · obtain ⟨c2, k1, k2⟩ := hg
            obtain rfl : c = c2 := by rw [h3] at k1; exact Option.some.inj k1
            rcases k2 with k2 | k2
            · unfold letterZ isLetter at h'
              simp only [Int.toNat_natCast] at h'
              have e1 : decide (192 ≤ c) = true := by simp; omega
              have e2 : decide (c ≤ 591) = true := by simp; omega
              have e3 : decide (c ≠ 215) = true := by simp; omega
              have e4 : decide (c ≠ 247) = true := by simp; omega
              rw [e1, e2, e3, e4] at h'
              simp at h'
            · omega
      have hf : foldC c = c := by unfold foldC; rw [if_neg hnf]
      have e1 : ((p : Int) + w).toNat = p + w := by omega
      have hb : bytesL (subS s p (p + w)) = (restL s p).take w := by
        rw [bytesL_sub]
        unfold restL
        rw [List.drop_take]
        congr 1
        omega
      have hz : (subS s p (p + w)).size = w := by
        rw [size_bytesL, hb, List.length_take, restL_length]; omega
      rw [e1]
      refine ⟨by omega, by omega, by omega, by omega, ?_⟩
      have := hy.on (add := bytesI (subS s p (p + w))) hp' h4 (by rw [bytesI_length, hz]; omega) (by rw [bytesI_map, hb, hfi, hf, enc_dec h5 (by omega)])
      rw [e1] at this
      exact this
  · have hend := hy.a
    rw [restL_end (by simp only [Int.toNat_natCast]; omega)] at hend
    have hend : (out.map fun n => UInt8.ofNat n.toNat) = foldL (bytesL s) := by
      have e : foldL [] = [] := rfl
      rw [e, List.append_nil] at hend; exact hend
    refine ⟨by unfold maxLen; omega, ?_⟩
    rw [fold1, fold2, hv]
    simp only [cond_true, Prod.mk.injEq, and_true]
    unfold strI
    rw [hend]
    rfl
end Go.Proofs.YtfhlceooobabcaaGreatDoor.Wd
set_option linter.all false
namespace Go.Proofs.YtfhlceooobabcaaGreatDoor.Wd
open Go Go.Eng Go.Lb Go.Ad
set_option maxRecDepth 100000
set_option maxHeartbeats 8000000
theorem len_gl (g : G8) : (gl g).length = 8 := rfl
theorem may2_fin {a : Ad} {i : Int} (hp : ¬ a.2.2.1 < 1 ∧ ¬ a.2.2.1 > 65535) (hf : a.1 = 4 ∨ a.1 = 6) (h : May2I a i) (hi : ¬ i < 8 ∨ ¬ a.1 = 4) : may1 a = true := by
  rw [may1_iff]
  refine ⟨⟨by omega, by omega⟩, ?_⟩
  rcases hf with h4 | h6
  · refine .inr ⟨h4, fun x hx => ?_⟩
    obtain ⟨k, hk, e⟩ := List.mem_iff_getElem.1 hx
    rw [List.getElem_drop] at e
    rw [List.length_drop, len_gl] at hk
    have i1 := h.i1
    have i8 : i = 8 := by omega
    have := h.z h4 (2 + k) (by omega) (by omega)
    rw [List.getD_eq_getElem?_getD, List.getElem?_eq_getElem (by rw [len_gl]; omega)] at this
    rw [← e]
    exact this
  · exact .inl h6
theorem v112 : Vc g112 300 Tryz.f112 cMay1 := by
  constructor
  rw [v112_eq]
  intro x _
  generalize x.fst = a
  have hg : (a.2.1.1 :: a.2.1.2.1 :: a.2.1.2.2.1 :: a.2.1.2.2.2.1 :: a.2.1.2.2.2.2.1 :: a.2.1.2.2.2.2.2.1 :: a.2.1.2.2.2.2.2.2.1 :: a.2.1.2.2.2.2.2.2.2.1 :: nilL Int) = gl a.2.1 := rfl
  rw [hg]
  refine (bcase_iff _ _ _).2 ⟨fun h => ?_, fun h => ?_⟩
  · have : may1 a = false := by
      cases hm : may1 a with
      | false => rfl
      | true =>
        exfalso
        have hm := (may1_iff a).1 hm
        simp only [Bool.or_eq_true, Bool.and_eq_true, Bool.not_eq_true', decide_eq_true_eq, decide_eq_false_iff_not] at h
        rcases h with (h | h) | h
        · omega
        · omega
        · rcases hm.2 with h6 | h4
          · exact h.2 h6
          · exact h.1 h4.1
    rw [this]
  · simp only [Bool.or_eq_false_iff, Bool.and_eq_false_iff, Bool.not_eq_false', decide_eq_true_eq, decide_eq_false_iff_not] at h
    obtain ⟨hp, hf⟩ := h
    refine ⟨⟨⟨⟨by omega, by omega, fun _ k h1 h2 => by omega⟩⟩, by repeat' (first | exact ⟨rfl⟩ | apply And.intro)⟩, fun y hy => (bcase_iff _ _ _).2 ⟨fun h => ?_, fun h => ?_⟩⟩
    · have hy := hy.out
      simp only [Bool.and_eq_true, decide_eq_true_eq] at h
      obtain ⟨h8, h4⟩ := h
      have y0 := hy.i0
      refine ⟨⟨by omega⟩, ⟨by omega⟩, (bcase_iff _ _ _).2 ⟨fun h => ?_, fun h => ?_⟩⟩
      · have h : ¬ (gl a.2.1).getD y.toNat 0 = 0 := by simpa using h
        have : may1 a = false := by
          cases hm : may1 a with
          | false => rfl
          | true =>
            exfalso
            have hm := ((may1_iff a).1 hm).2
            rcases hm with h6 | ⟨_, hz⟩
            · omega
            · apply h
              apply hz
              have hl : y.toNat < (gl a.2.1).length := by rw [len_gl]; omega
              rw [List.getD_eq_getElem?_getD, List.getElem?_eq_getElem hl]
              refine List.mem_iff_getElem.2 ⟨y.toNat - 2, by rw [List.length_drop, len_gl]; omega, ?_⟩
              rw [List.getElem_drop]
              simp only [Option.getD_some]
              congr 1
              omega
        rw [this]
      · have h : (gl a.2.1).getD y.toNat 0 = 0 := by simpa using h
        rw [w64 (by omega) (by omega)]
        refine ⟨⟨⟨by omega, by omega, fun h4 k k1 k2 => ?_⟩⟩, ⟨by omega⟩, by repeat' (first | exact ⟨rfl⟩ | apply And.intro)⟩
        rcases Int.lt_or_le (k : Int) y with c | c
        · exact hy.z h4 k k1 c
        · have : k = y.toNat := by omega
          rw [this]; exact h
    · rw [may2_fin hp hf hy.out (by
        simp only [Bool.and_eq_false_iff, decide_eq_false_iff_not] at h
        exact h)]
theorem v77 : Vc g77 300 Tryz.f77 cMay := by
  constructor
  rw [v77_eq]
  intro x hl
  generalize x.fst = l at *
  have hl := (lenA_iff l).1 hl.out
  refine ⟨⟨⟨⟨by omega, by omega, rfl⟩⟩, by repeat' (first | exact ⟨rfl⟩ | apply And.intro)⟩, fun y hy => (bcase_iff _ _ _).2 ⟨fun h => ?_, fun h => ?_⟩⟩
  · have hy := hy.out
    have h := of_decide_eq_true h
    have y0 := hy.i0
    refine ⟨⟨y0⟩, ⟨h⟩, ⟨rfl⟩, ⟨rfl⟩, (bcase_iff _ _ _).2 ⟨fun hm => ?_, fun hm => ?_⟩⟩
    · have : mayA l = false := by
        cases hx : mayA l with
        | false => rfl
        | true =>
          have h1 : may1 (l.getD y.toNat (Ty.zero AdT)) = true := List.all_eq_true.1 hx _ (getD_memA (z := Ty.zero AdT) y0 h)
          have h2 : may1 (l.getD y.toNat (Ty.zero AdT)) = false := by
            rw [Bool.not_eq_true'] at hm
            exact hm
          exact absurd (h1.symm.trans h2) (by decide)
      rw [this]
    · have hm : may1 (l.getD y.toNat (Ty.zero AdT)) = true := by simpa using hm
      rw [step y0 (by omega) h]
      refine ⟨⟨⟨by omega, by omega, ?_⟩⟩, ⟨wcut y0 h⟩, by repeat' (first | exact ⟨rfl⟩ | apply And.intro)⟩
      rw [take_succ l y (Ty.zero AdT) y0 h, List.all_append, hy.a]
      simpa using hm
  · have := hy.out.a
    rw [take_all hy.out.i1 (of_decide_eq_false h)] at this
    rw [show mayA l = true from this]
/-! digits -/
end Go.Proofs.YtfhlceooobabcaaGreatDoor.Wd
set_option linter.all false
namespace Go.Proofs.YtfhlceooobabcaaGreatDoor.Wd
open Go Go.Eng Go.Lb Go.Ad
set_option maxRecDepth 100000
set_option maxHeartbeats 8000000

section
variable {α κ : Type} {k : α → κ} {l : List α} {z : α} {i j : Int}
theorem take_map (h0 : 0 ≤ i) (hi : i < l.length) (z : α) : (l.take (i + 1).toNat).map k = (l.take i.toNat).map k ++ [k (l.getD i.toNat z)] := by rw [take_succ l i z h0 hi]; simp
theorem OnO.zero : OnO k l 0 := ⟨by omega, by omega, List.nodup_nil⟩
theorem OnO.toK (h : OnO k l i) (hi : i < l.length) : OnK k l z i 0 := ⟨h, hi, by omega, h.i0, by simp⟩
theorem OnK.on (h : OnK k l z i j) (hj : j < i) (hne : ¬ k (l.getD j.toNat z) = k (l.getD i.toNat z)) : OnK k l z i (j + 1) := by
  have h0 := h.j0
  have hi := h.i2
  refine ⟨h.o, hi, by omega, by omega, ?_⟩
  rw [take_map h0 (by omega) z]
  simp only [List.mem_append, List.mem_singleton, not_or]
  exact ⟨h.n, fun e => hne e.symm⟩
theorem OnK.twice (h : OnK k l z i j) (hj : j < i) (he : k (l.getD j.toNat z) = k (l.getD i.toNat z)) : ¬ (l.map k).Nodup := by
  intro hn
  have h0 := h.j0
  have hi := h.i2
  have hs : ((l.take (i + 1).toNat).map k).Nodup := ((List.take_sublist _ _).map k).nodup hn
  rw [take_map h.o.i0 hi z] at hs
  refine (List.nodup_append.1 hs).2.2 (k (l.getD j.toNat z)) (List.mem_map.2 ⟨_, ?_, rfl⟩) _ (List.mem_singleton.2 rfl) he
  rw [List.getD_eq_getElem?_getD, List.getElem?_eq_getElem (by omega), Option.getD_some]
  exact List.mem_take_iff_getElem.2 ⟨j.toNat, by omega, rfl⟩
theorem OnK.fin' (h : OnK k l z i j) (hj : ¬ j < i) : ¬ k (l.getD i.toNat z) ∈ (l.take i.toNat).map k := by
  have h1 := h.j1
  obtain rfl : j = i := by omega
  exact h.n
theorem OnO.on (h : OnO k l i) (hi : i < l.length) (hn : ¬ k (l.getD i.toNat z) ∈ (l.take i.toNat).map k) : OnO k l (i + 1) := by
  have h0 := h.i0
  refine ⟨by omega, by omega, ?_⟩
  rw [take_map h0 hi z]
  refine List.nodup_append.2 ⟨h.d, List.pairwise_singleton _ _, fun a ha b hb => ?_⟩
  obtain rfl := List.mem_singleton.1 hb
  exact fun e => hn (e ▸ ha)
theorem OnO.fin (h : OnO k l i) (hi : ¬ i < l.length) : (l.map k).Nodup := by
  have := h.d
  rw [take_all h.i1 hi] at this
  exact this
end
theorem all_on {α : Type} {p : α → Bool} {l : List α} {i : Int} (z : α) (h0 : 0 ≤ i) (hi : i < l.length) (ha : (l.take i.toNat).all p = true) (hp : p (l.getD i.toNat z) = true) : (l.take (i + 1).toNat).all p = true := by
  rw [take_succ l i z h0 hi, List.all_append, ha]
  simp only [List.all_cons, List.all_nil, Bool.and_true, Bool.true_and]
  exact hp
theorem all_no {α : Type} {p : α → Bool} {l : List α} {i : Int} (z : α) (h0 : 0 ≤ i) (hi : i < l.length) (hp : p (l.getD i.toNat z) = false) : l.all p = false := by
  rw [List.all_eq_false]
  exact ⟨_, getD_memA (z := z) h0 hi, by rw [hp]; simp⟩
theorem once_iff (l : List Ad) : onceA l = true ↔ l.Nodup ∧ mayA l = true := by simp [onceA]
theorem map_idK (l : List Ad) : l.map idK = l := by
  have : idK = (fun a => a) := rfl
  rw [this, List.map_id']
theorem v129 : Vc g129 300 Tryz.f129 cOnce := by
  constructor
  rw [v129_eq]
  simp only [Wr_iff, bcase_iff, true_and, and_true, decide_eq_true_eq, decide_eq_false_iff_not, Bool.and_eq_true, Bool.and_eq_false_iff, Bool.or_eq_true, Bool.or_eq_false_iff, Bool.not_eq_true', Bool.not_eq_false', Option.map_some, Option.getD_some, Option.isSome_some, Option.isSome_map, imp_self, nilL, noneO]
  rintro ⟨l, ⟨⟩⟩ hl
  dsimp only at hl ⊢
  have hn := (lenA_iff l).1 hl
  refine ⟨OnO.zero, fun i I => ⟨fun hi => ⟨I.toK hi, fun j J => ⟨fun hj => ⟨J.j0, by omega, I.i0, hi, fun he => ?_, fun he => ?_⟩, fun hj => ?_⟩⟩, fun hi => ⟨hl, ?_⟩⟩⟩
  · have := J.twice hj ((eqA _ _).1 he)
    rw [map_idK] at this
    exact pr (no_of (once_iff l) fun h => this h.1).symm
  · have h0 := J.j0
    have i0 := I.i0
    have e : IntKind.wrap .i64 (j + 1) = j + 1 := w64 (by omega) (by omega)
    rw [e]
    exact ⟨J.on hj ((eqA_f _ _).1 he), by omega⟩
  · have i0 := I.i0
    have e : IntKind.wrap .i64 (i + 1) = i + 1 := w64 (by omega) (by omega)
    rw [e]
    exact ⟨I.on hi (J.fin' hj), by omega⟩
  · have := I.fin hi
    rw [map_idK] at this
    unfold onceA
    rw [decide_eq_true this, Bool.true_and]
theorem zones_iff (l : List Zn) : zonesB l = true ↔ l.length ≤ 8 ∧ l.all zoneOk = true ∧ (l.map nameOf).Nodup := by simp [zonesB, unlN]
theorem okZs_iff (l : List Zn) : okZs l = true ↔ l.length ≤ 40 ∧ ∀ z ∈ l, z.1.size ≤ 400 := by simp [okZs, okZ]
theorem rowOk_iff (l : List Ad) : rowOk l = true ↔ l.length ≤ 16 ∧ onceA l = true := by simp [rowOk, onceA, and_comm]
theorem v90 : Vc g90 300 Tryz.f90 cZones := by
  constructor
  rw [v90_eq]
  simp only [Wr_iff, bcase_iff, true_and, and_true, decide_eq_true_eq, decide_eq_false_iff_not, Bool.and_eq_true, Bool.and_eq_false_iff, Bool.or_eq_true, Bool.or_eq_false_iff, Bool.not_eq_true', Bool.not_eq_false', Option.map_some, Option.getD_some, Option.isSome_some, Option.isSome_map, imp_self, nilL, noneO]
  rintro ⟨l, ⟨⟩⟩ hl
  dsimp only at hl ⊢
  obtain ⟨hn, hsz⟩ := (okZs_iff l).1 hl
  refine ⟨⟨OnO.zero, rfl⟩, fun i I => ⟨fun hi => ?_, fun hi => ?_⟩⟩
  · have i0 := I.o.i0
    have hgm := getD_memA (z := ZoneT.zero) i0 hi
    have e : IntKind.wrap .i64 (i + 1) = i + 1 := w64 (by omega) (by omega)
    rw [e]
    have hz := zone_iff (l.getD i.toNat ZoneT.zero)
    have noz : ¬ ((fold2 (l.getD i.toNat ZoneT.zero).1 = 0 ∧ fold1 (l.getD i.toNat ZoneT.zero).1 = (l.getD i.toNat ZoneT.zero).1) ∧ (1 ≤ (l.getD i.toNat ZoneT.zero).2.1.length ∧ (l.getD i.toNat ZoneT.zero).2.1.length ≤ 32) ∧ (l.getD i.toNat ZoneT.zero).2.1.all rowOk = true) → (false, ()) = (zonesB l, ()) := fun h =>
      pr (no_of (zones_iff l) fun q => absurd ((all_no ZoneT.zero i0 hi (no_of hz h)).symm.trans q.2.1) Bool.false_ne_true).symm
    refine ⟨i0, hi, (szOk_iff _).2 (Nat.le_trans (hsz _ hgm) (by omega)), fun _ => i0, fun _ => hi, fun _ => trivial, fun _ => trivial, fun _ => i0, fun _ => hi, fun _ => trivial, fun _ => trivial, fun _ => i0, fun _ => hi, fun _ => trivial, fun _ => trivial, fun h => noz fun q => ?_, fun hok => ⟨⟨I, I.o.toK hi⟩, fun j J => ⟨fun hj => ⟨J.k.j0, by omega, i0, hi, fun he => ?_, fun he => ?_⟩, fun hj => ⟨⟨I, hi, J.k.fin' hj, by omega, by omega, ?_, rfl⟩, fun m M => ⟨i0, hi, fun hm => ?_, fun hm => ?_⟩⟩⟩⟩⟩
    · have q1 := q.1
      have q2 := q.2.1
      rcases h with ((h | h) | h) | h
      · exact h q1.1
      · exact h q1.2
      · omega
      · omega
    · have := J.k.twice (k := nameOf) hj he
      exact pr (no_of (zones_iff l) fun q => this q.2.2).symm
    · have h0 := J.k.j0
      have e : IntKind.wrap .i64 (j + 1) = j + 1 := w64 (by omega) (by omega)
      rw [e]
      exact ⟨⟨I, J.k.on (k := nameOf) hj he⟩, by omega⟩
    · have := hok.2; omega
    · have m0 := M.j0
      have mm := M.m
      have ms := M.a
      have e : IntKind.wrap .i64 (m + 1) = m + 1 := w64 (by omega) (by omega)
      rw [e]
      have hr := rowOk_iff ((l.getD i.toNat ZoneT.zero).2.1.getD m.toNat AdL.zero)
      refine ⟨i0, hi, m0, hm, fun _ => i0, fun _ => hi, fun _ => trivial, fun _ => trivial, fun _ => m0, fun _ => hm, fun _ => trivial, fun h => (lenA_iff _).2 (by omega), fun h => noz fun q => ?_, fun h => ⟨⟨I, hi, M.n, by omega, by omega, mm, all_on AdL.zero m0 hm ms (hr.2 ⟨by omega, h.2⟩)⟩, by omega⟩⟩
      have hno : rowOk ((l.getD i.toNat ZoneT.zero).2.1.getD m.toNat AdL.zero) = false := no_of hr fun w => by
        rcases h with h | h
        · omega
        · rw [w.2] at h; cases h
      exact absurd ((all_no AdL.zero m0 hm hno).symm.trans q.2.2) Bool.false_ne_true
    · have m0 := M.j0
      refine ⟨⟨I.o.on hi M.n, all_on ZoneT.zero i0 hi I.a (hz.2 ⟨hok.1.1, by omega, ?_⟩)⟩, by omega⟩
      have := M.a
      rw [take_all M.j1 hm] at this
      exact this
  · have h1 := I.o.fin hi
    have h2 := I.a
    rw [take_all I.o.i1 hi] at h2
    refine pr ?_
    unfold zonesB unlN
    rw [h2, decide_eq_true h1, Bool.and_true, Bool.and_true]
    exact decide_eq_decide.2 (by omega)
theorem fates_iff (l : List Ft) : fatesB l = true ↔ l.length ≤ 32 ∧ l.all fateOk = true ∧ (l.map adOf).Nodup := by simp [fatesB, unlF]
theorem fateIn_iff (n : Int) : fateIn n = true ↔ 0 ≤ n ∧ n ≤ 2 := by simp [fateIn]
theorem v91 : Vc g91 300 Tryz.f91 cFates := by
  constructor
  rw [v91_eq]
  simp only [Wr_iff, bcase_iff, true_and, and_true, decide_eq_true_eq, decide_eq_false_iff_not, Bool.and_eq_true, Bool.and_eq_false_iff, Bool.or_eq_true, Bool.or_eq_false_iff, Bool.not_eq_true', Bool.not_eq_false', Option.map_some, Option.getD_some, Option.isSome_some, Option.isSome_map, imp_self, nilL, noneO]
  rintro ⟨l, ⟨⟩⟩ hl
  dsimp only at hl ⊢
  have hn : l.length ≤ 100 := by simpa [okFs] using hl
  refine ⟨⟨OnO.zero, rfl⟩, fun i I => ⟨fun hi => ?_, fun hi => ?_⟩⟩
  · have i0 := I.o.i0
    have hgm := getD_memA (z := FatT.zero) i0 hi
    have e : IntKind.wrap .i64 (i + 1) = i + 1 := w64 (by omega) (by omega)
    rw [e, may_one]
    have hz := fate_iff (l.getD i.toNat FatT.zero)
    have noz : ¬ (may1 (l.getD i.toNat FatT.zero).1 = true ∧ (1 ≤ (l.getD i.toNat FatT.zero).2.1.length ∧ (l.getD i.toNat FatT.zero).2.1.length ≤ 32) ∧ (l.getD i.toNat FatT.zero).2.1.all fateIn = true) → (false, ()) = (fatesB l, ()) := fun h =>
      pr (no_of (fates_iff l) fun q => absurd ((all_no FatT.zero i0 hi (no_of hz h)).symm.trans q.2.1) Bool.false_ne_true).symm
    refine ⟨i0, hi, (lenA_iff _).2 (by simp), fun _ => i0, fun _ => hi, fun _ => trivial, fun _ => trivial, fun _ => i0, fun _ => hi, fun _ => trivial, fun _ => trivial, fun h => noz fun q => ?_, fun hok => ⟨⟨I, I.o.toK hi⟩, fun j J => ⟨fun hj => ⟨J.k.j0, by omega, i0, hi, fun he => ?_, fun he => ?_⟩, fun hj => ⟨⟨I, hi, J.k.fin' hj, by omega, by omega, ?_, rfl⟩, fun m M => ⟨i0, hi, fun hm => ?_, fun hm => ?_⟩⟩⟩⟩⟩
    · have q1 := q.1
      have q2 := q.2.1
      rcases h with (h | h) | h
      · rw [q1] at h; cases h
      · omega
      · omega
    · have := J.k.twice (k := adOf) hj ((eqA _ _).1 he)
      exact pr (no_of (fates_iff l) fun q => this q.2.2).symm
    · have h0 := J.k.j0
      have e : IntKind.wrap .i64 (j + 1) = j + 1 := w64 (by omega) (by omega)
      rw [e]
      exact ⟨⟨I, J.k.on (k := adOf) hj ((eqA_f _ _).1 he)⟩, by omega⟩
    · have := hok.2; omega
    · have m0 := M.j0
      have mm := M.m
      have ms := M.a
      have e : IntKind.wrap .i64 (m + 1) = m + 1 := w64 (by omega) (by omega)
      rw [e]
      have hr := fateIn_iff ((l.getD i.toNat FatT.zero).2.1.getD m.toNat 0)
      refine ⟨i0, hi, m0, hm, fun _ => i0, fun _ => hi, fun _ => trivial, fun _ => trivial, fun _ => m0, fun _ => hm, fun _ => trivial, fun h => noz fun q => ?_, fun h => ⟨⟨I, hi, M.n, by omega, by omega, mm, all_on 0 m0 hm ms (hr.2 ⟨by omega, by omega⟩)⟩, by omega⟩⟩
      have hno : fateIn ((l.getD i.toNat FatT.zero).2.1.getD m.toNat 0) = false := no_of hr fun w => by omega
      exact absurd ((all_no 0 m0 hm hno).symm.trans q.2.2) Bool.false_ne_true
    · have m0 := M.j0
      refine ⟨⟨I.o.on hi M.n, all_on FatT.zero i0 hi I.a (hz.2 ⟨hok.1.1, by omega, ?_⟩)⟩, by omega⟩
      have := M.a
      rw [take_all M.j1 hm] at this
      exact this
  · have h1 := I.o.fin hi
    have h2 := I.a
    rw [take_all I.o.i1 hi] at h2
    refine pr ?_
    unfold fatesB unlF
    rw [h2, decide_eq_true h1, Bool.and_true, Bool.and_true]
    exact decide_eq_decide.2 (by omega)
theorem chk_iff2 (p : Pl) : checkB p = true ↔ ((((zonesB p.1 = true ∧ fatesB p.2.1 = true) ∧ ¬ p.2.2.1 < 0) ∧ ¬ p.2.2.1 > 200) ∧ ¬ (p.2.2.2.1.length : Int) > 16) ∧ p.2.2.2.1.all dropOk = true := by
  rw [check_iff, zones_iff, fates_iff]
  constructor
  · rintro ⟨⟨a, b⟩, c, ⟨d, e⟩, f, g, h, i, j⟩
    exact ⟨⟨⟨⟨⟨⟨a, b, c⟩, d, e, f⟩, by omega⟩, by omega⟩, by omega⟩, j⟩
  · rintro ⟨⟨⟨⟨⟨⟨a, b, c⟩, d, e, f⟩, g⟩, h⟩, i⟩, j⟩
    exact ⟨⟨a, b⟩, c, ⟨d, e⟩, f, by omega, by omega, by omega, j⟩
theorem chk2_no {p : Pl} (h : ¬ checkB p = true) : ((90 : Int), ()) = (check p, ()) := by
  have : checkB p = false := by simpa using h
  rw [check, this]; rfl
theorem v37 : Vc g37 300 Tryz.f37 cCheckR := by
  constructor
  rw [v37_eq]
  simp only [Wr_iff, bcase_iff, true_and, and_true, decide_eq_true_eq, decide_eq_false_iff_not, Bool.and_eq_true, Bool.and_eq_false_iff, Bool.or_eq_true, Bool.or_eq_false_iff, Bool.not_eq_true', Bool.not_eq_false', Option.map_some, Option.getD_some, Option.isSome_some, Option.isSome_map, imp_self, nilL, noneO]
  rintro ⟨p, ⟨⟩⟩ hp
  dsimp only at hp ⊢
  simp only [okQ, Bool.and_eq_true] at hp
  refine ⟨hp.1, fun _ => hp.2, fun h => chk2_no fun hc => ?_, fun h => ⟨⟨by omega, by omega, by omega, rfl⟩, fun i I => ⟨fun hi => ?_, fun hi => ?_⟩⟩⟩
  · have hc := ((chk_iff2 p).1 hc).1
    rcases h with (((h | h) | h) | h) | h
    · rw [hc.1.1.1.1] at h; cases h
    · rw [hc.1.1.1.2] at h; cases h
    · exact hc.1.1.2 h
    · exact hc.1.2 h
    · exact hc.2 h
  · have i0 := I.i0
    have im := I.m
    have e : IntKind.wrap .i64 (i + 1) = i + 1 := w64 (by omega) (by omega)
    rw [e]
    refine ⟨i0, hi, fun hd => chk2_no fun hc => ?_, fun hd => ⟨⟨by omega, by omega, im, all_on 0 i0 hi I.a (decide_eq_true (by omega))⟩, by omega⟩⟩
    have hno : dropOk (p.2.2.2.1.getD i.toNat 0) = false := decide_eq_false (by omega)
    have hc := ((chk_iff2 p).1 hc).2
    exact absurd ((all_no 0 i0 hi hno).symm.trans hc) Bool.false_ne_true
  · have h2 := I.a
    rw [take_all I.i1 hi] at h2
    rw [check, (chk_iff2 p).2 ⟨h, h2⟩]; rfl
end Go.Proofs.YtfhlceooobabcaaGreatDoor.Wd
set_option linter.all false
namespace Go.Proofs.YtfhlceooobabcaaGreatDoor.Wd
open Go Go.Eng Go.Lb Go.Ad
set_option maxRecDepth 100000
set_option maxHeartbeats 8000000

theorem v11 : Vc g11 300 Tryz.f11 cNewR := by
  constructor
  rw [v11_eq]
  simp only [Wr_iff, bcase_iff, true_and, and_true, decide_eq_true_eq, decide_eq_false_iff_not, Bool.and_eq_true, Bool.and_eq_false_iff, Bool.or_eq_true, Bool.or_eq_false_iff, Bool.not_eq_true', Bool.not_eq_false', Option.map_some, Option.getD_some, Option.isSome_some, Option.isSome_map, imp_self, nilL, noneO]
  rintro ⟨p, ⟨⟩⟩ hp
  dsimp only at hp ⊢
  refine ⟨hp, fun h => ?_, fun h => ?_⟩
  · have hc : checkB p = false := no_of (check_0 p).symm h
    rw [newW, check, hc]; rfl
  · have hc := (check_0 p).1 h
    rw [newW, check, hc]; rfl
theorem v14 : Vc g14 300 Tryz.f14 cTick := by
  constructor
  rw [v14_eq]
  simp only [Wr_iff, bcase_iff, true_and, and_true, decide_eq_true_eq, decide_eq_false_iff_not, Bool.and_eq_true, Bool.and_eq_false_iff, Bool.or_eq_true, Bool.or_eq_false_iff, Bool.not_eq_true', Bool.not_eq_false', Option.map_some, Option.getD_some, Option.isSome_some, Option.isSome_map, imp_self, nilL, noneO]
  rintro ⟨w, ⟨⟩⟩ _
  dsimp only
  refine ⟨fun h => ?_, fun h => ?_⟩
  · simp only [tickW, tickE, decide_eq_true (show w.1.2.2.1 ≤ w.2.1 from h)]; rfl
  · simp only [tickW, tickE, decide_eq_false (show ¬ w.1.2.2.1 ≤ w.2.1 from h)]; rfl
theorem v96 : Vc g96 300 Tryz.f96 (cClone 111 64 SockT) := by
  constructor
  rw [v96_eq]
  simp only [Wr_iff, bcase_iff, true_and, and_true, decide_eq_true_eq, decide_eq_false_iff_not, Bool.and_eq_true, Bool.and_eq_false_iff, Bool.or_eq_true, Bool.or_eq_false_iff, Bool.not_eq_true', Bool.not_eq_false', Option.map_some, Option.getD_some, Option.isSome_some, Option.isSome_map, imp_self, nilL, noneO]
  exact fun _ => trivial
theorem v44 : Vc g44 300 Tryz.f44 cDropS := by
  constructor
  rw [v44_eq]
  simp only [Wr_iff, bcase_iff, true_and, and_true, decide_eq_true_eq, decide_eq_false_iff_not, Bool.and_eq_true, Bool.and_eq_false_iff, Bool.or_eq_true, Bool.or_eq_false_iff, Bool.not_eq_true', Bool.not_eq_false', Option.map_some, Option.getD_some, Option.isSome_some, Option.isSome_map, imp_self, nilL, noneO]
  rintro ⟨l, n, ⟨⟩⟩ hx
  dsimp only at hx ⊢
  simp only [okN, decide_eq_true_eq] at hx
  refine ⟨fun h => by omega, fun h => by omega, fun _ => trivial, fun _ => trivial, fun h => ?_, fun h => ?_⟩
  · have h' : Sk.opens l n = false := no_of (opens_iff l n) fun q => by
      have q2 : (l.getD n.toNat SockT.zero).2.2.2.1 = 0 := by
        have := q.2
        simp only [Sk.isOpen, decide_eq_true_eq] at this
        exact this
      rcases h with (h | h) | h
      · omega
      · omega
      · exact h q2
    simp only [Sk.drA, Sk.drE]; rw [if_neg (by simpa using h'), if_neg (by simpa using h')]
  · have h' : Sk.opens l n = true := (opens_iff l n).2 ⟨by omega, by simp only [Sk.isOpen, decide_eq_true_eq]; exact h.2⟩
    simp only [Sk.drA, Sk.drE]
    rw [if_pos h', if_pos h']
    refine ⟨by omega, by omega, by omega, ?_⟩
    rfl
theorem v16 : Vc g16 300 Tryz.f16 cDropW := by
  constructor
  rw [v16_eq]
  simp only [Wr_iff, bcase_iff, true_and, and_true, decide_eq_true_eq, decide_eq_false_iff_not, Bool.and_eq_true, Bool.and_eq_false_iff, Bool.or_eq_true, Bool.or_eq_false_iff, Bool.not_eq_true', Bool.not_eq_false', Option.map_some, Option.getD_some, Option.isSome_some, Option.isSome_map, imp_self, nilL, noneO]
  rintro ⟨w, ⟨⟩⟩ hx
  dsimp only at hx ⊢
  have cd : canDrop w = true ↔ 0 ≤ w.2.2.2.2.2.1 ∧ w.2.2.2.2.2.1 < (w.1.2.2.2.1.length : Int) := by simp [canDrop]
  refine ⟨fun h => ?_, fun h => ⟨by omega, by omega, hx, fun hd => ?_, fun hd => ?_⟩⟩
  · have e : canDrop w = false := no_of cd (by omega)
    rw [dropW, dropE, e]; rfl
  · have e : canDrop w = true := cd.2 (by omega)
    have hd' : Sk.drE w.2.2.1 (dropN w) = 0 := hd
    rw [dropW, dropE, e, hd']; rfl
  · have e : canDrop w = true := cd.2 (by omega)
    have hd' : ¬ Sk.drE w.2.2.1 (dropN w) = 0 := hd
    rw [dropW, dropE, e, decide_eq_false hd']; rfl
theorem v34 : Vc g34 300 Tryz.f34 cGreatS := by
  constructor
  rw [v34_eq]
  simp only [Wr_iff, bcase_iff, true_and, and_true, decide_eq_true_eq, decide_eq_false_iff_not, Bool.and_eq_true, Bool.and_eq_false_iff, Bool.or_eq_true, Bool.or_eq_false_iff, Bool.not_eq_true', Bool.not_eq_false', Option.map_some, Option.getD_some, Option.isSome_some, Option.isSome_map, imp_self, nilL, noneO]
  rintro ⟨l, m, ⟨⟩⟩ _
  dsimp only
  refine pr ?_
  unfold greatS
  rw [decide_eq_decide.2 (show (l.length : Int) > 300 ↔ 300 < l.length by omega), decide_eq_decide.2 (show (m.length : Int) > 600 ↔ 600 < m.length by omega)]
theorem v8 : Vc g8 300 Tryz.f8 cGreatW := by
  constructor
  rw [v8_eq]
  simp only [Wr_iff, bcase_iff, true_and, and_true, decide_eq_true_eq, decide_eq_false_iff_not, Bool.and_eq_true, Bool.and_eq_false_iff, Bool.or_eq_true, Bool.or_eq_false_iff, Bool.not_eq_true', Bool.not_eq_false', Option.map_some, Option.getD_some, Option.isSome_some, Option.isSome_map, imp_self, nilL, noneO]
  rintro ⟨w, ⟨⟩⟩ hw
  dsimp only at hw ⊢
  refine ⟨hw, fun _ => trivial, pr ?_⟩
  unfold greatW
  rw [decide_eq_decide.2 (show (w.2.2.2.1.length : Int) > 400 ↔ 400 < w.2.2.2.1.length by omega), decide_eq_decide.2 (show (w.2.2.2.2.1.length : Int) > 400 ↔ 400 < w.2.2.2.2.1.length by omega), Bool.or_assoc, Bool.or_assoc]
/-! what is too great -/
theorem sumB_app {α : Type} (f : α → Int) (l m : List α) : sumB f (l ++ m) = sumB f l + sumB f m := by
  induction l with
  | nil => simp [sumB]
  | cons x r ih => simp only [List.cons_append, sumB, ih]; omega
theorem sumB_on {α : Type} (f : α → Int) {l : List α} {i : Int} (z : α) (h0 : 0 ≤ i) (hi : i < l.length) : sumB f (l.take (i + 1).toNat) = sumB f (l.take i.toNat) + f (l.getD i.toNat z) := by
  rw [take_succ l i z h0 hi, sumB_app]
  simp [sumB]
theorem wrap_add (a b : Int) : IntKind.wrap .i64 (IntKind.wrap .i64 a + b) = IntKind.wrap .i64 (a + b) := by
  simp [IntKind.wrap, IntKind.signed, IntKind.bits]; omega
theorem any_on {α : Type} {p : α → Bool} {l : List α} {i : Int} (z : α) (h0 : 0 ≤ i) (hi : i < l.length) (ha : (l.take i.toNat).any p = false) (hp : p (l.getD i.toNat z) = false) : (l.take (i + 1).toNat).any p = false := by
  rw [take_succ l i z h0 hi, List.any_append, ha]
  simp only [List.any_cons, List.any_nil, Bool.or_false, Bool.false_or]
  exact hp
theorem bad_f (z : Zn) : badZ z = false ↔ ¬ (z.2.1.length : Int) > 60 ∧ ¬ (z.1.size : Int) > 400 := by
  simp only [badZ, Bool.or_eq_false_iff, decide_eq_false_iff_not]; omega
theorem take41 {α : Type} {l : List α} {i : Int} (h0 : 0 ≤ i) (h1 : i ≤ l.length) {n : Nat} (h2 : i ≤ n) (h : ¬ i < l.length ∨ ¬ i < n) : l.take n = l.take i.toNat := by
  rcases h with h | h
  · rw [List.take_of_length_le (show l.length ≤ n by omega), List.take_of_length_le (show l.length ≤ i.toNat by omega)]
  · congr 1; omega
theorem mem_take {α : Type} {l : List α} {i : Int} {n : Nat} (z : α) (h0 : 0 ≤ i) (hi : i < l.length) (hn : i < n) : l.getD i.toNat z ∈ l.take n := by
  rw [List.getD_eq_getElem?_getD, List.getElem?_eq_getElem (show i.toNat < l.length by omega), Option.getD_some]
  exact List.mem_take_iff_getElem.2 ⟨i.toNat, by omega, rfl⟩
theorem v7 : Vc g7 300 Tryz.f7 cGreatP := by
  constructor
  rw [v7_eq]
  simp only [Wr_iff, bcase_iff, true_and, and_true, decide_eq_true_eq, decide_eq_false_iff_not, Bool.and_eq_true, Bool.and_eq_false_iff, Bool.or_eq_true, Bool.or_eq_false_iff, Bool.not_eq_true', Bool.not_eq_false', Option.map_some, Option.getD_some, Option.isSome_some, Option.isSome_map, imp_self, nilL, noneO]
  rintro ⟨p, ⟨⟩⟩ hp
  dsimp only at hp ⊢
  have hd : p.2.2.2.1.length ≤ 140737488355328 := of_decide_eq_true hp
  refine ⟨⟨by omega, by omega, by omega, rfl, ?_⟩, fun ⟨n, i⟩ I => ⟨fun hi => ?_, fun hi => ⟨⟨by omega, by omega, by omega, ?_, ?_⟩, fun ⟨m, j⟩ J => ⟨fun hj => ?_, fun hj => ?_⟩⟩⟩⟩
  · show (p.2.2.2.1.length : Int) = IntKind.wrap .i64 ((p.2.2.2.1.length : Int) + sumB zonN [])
    rw [show sumB zonN [] = 0 from rfl, Int.add_zero]
    exact (w64 (by omega) (by omega)).symm
  · have i0 : 0 ≤ i := I.i0
    dsimp only at hi ⊢
    have e : IntKind.wrap .i64 (i + 1) = i + 1 := w64 (by omega) (by omega)
    refine ⟨i0, hi.1, fun _ => i0, fun _ => hi.1, fun _ => trivial, fun _ => trivial, fun h => pr ?_, fun h => ⟨⟨i0, hi.1, hi.2, I.a, (bad_f _).2 h, by omega, by omega, ?_⟩, fun ⟨m, k⟩ K => ⟨i0, hi.1, fun hk => ?_, fun hk => ?_⟩⟩⟩
    · have hb : badZ (p.1.getD i.toNat ZoneT.zero) = true := by
        cases hb : badZ (p.1.getD i.toNat ZoneT.zero) with
        | true => rfl
        | false =>
          have q := (bad_f _).1 hb
          rcases h with h | h
          · exact absurd h q.1
          · exact absurd h q.2
      have : (p.1.take 41).any badZ = true := by
        exact List.any_eq_true.2 ⟨_, mem_take ZoneT.zero i0 hi.1 (by omega), hb⟩
      unfold greatP
      rw [this, Bool.true_or]
    · rw [show (p.1.getD i.toNat ZoneT.zero).2.1.take (0 : Int).toNat = [] from rfl, show sumB rowN [] = 0 from rfl, Int.add_zero]
      exact I.n
    · have k0 : 0 ≤ k := K.k0
      have hm : (p.1.getD i.toNat ZoneT.zero).2.1.length ≤ 60 := by have := h.1; omega
      dsimp only at hk ⊢
      have e : IntKind.wrap .i64 (k + 1) = k + 1 := w64 (by omega) (by omega)
      rw [e]
      refine ⟨i0, hi.1, k0, hk, ⟨i0, hi.1, hi.2, I.a, (bad_f _).2 h, by omega, by omega, ?_⟩, by omega⟩
      have hn : m = IntKind.wrap .i64 (gN0 p i.toNat + sumB rowN ((p.1.getD i.toNat ZoneT.zero).2.1.take k.toNat)) := K.n
      rw [hn, wrap_add, sumB_on rowN AdL.zero k0 hk, Int.add_assoc]
      rfl
    · have k1 := K.k1
      have hn : m = IntKind.wrap .i64 (gN0 p i.toNat + sumB rowN ((p.1.getD i.toNat ZoneT.zero).2.1.take k.toNat)) := K.n
      dsimp only at hk k1 ⊢
      rw [e]
      refine ⟨⟨by omega, by omega, by omega, any_on ZoneT.zero i0 hi.1 I.a ((bad_f _).2 h), ?_⟩, by omega⟩
      rw [hn, take_all k1 hk]
      unfold gN0
      rw [sumB_on zonN ZoneT.zero i0 hi.1, ← Int.add_assoc]
      rfl
  · have := take41 (l := p.1) (n := 41) I.i0 I.i1 I.i2 (by rcases hi with h | h; exact .inl h; exact .inr (by omega))
    rw [this]; exact I.a
  · have := take41 (l := p.1) (n := 41) I.i0 I.i1 I.i2 (by rcases hi with h | h; exact .inl h; exact .inr (by omega))
    have hn := I.n
    dsimp only at hn ⊢
    unfold gN1 gN0
    rw [this, hn]
    unfold gN0
    rw [show p.2.1.take (0 : Int).toNat = [] from rfl, show sumB fatN [] = 0 from rfl, Int.add_zero]
  · have j0 : 0 ≤ j := J.i0
    have hn : m = IntKind.wrap .i64 (gN1 p j.toNat) := J.n
    dsimp only at hj ⊢
    have e : IntKind.wrap .i64 (j + 1) = j + 1 := w64 (by omega) (by omega)
    rw [e]
    refine ⟨j0, hj.1, ⟨by omega, by omega, by omega, J.a, ?_⟩, by omega⟩
    rw [hn, wrap_add]
    unfold gN1
    rw [sumB_on fatN FatT.zero j0 hj.1, Int.add_assoc]
    rfl
  · have hn : m = IntKind.wrap .i64 (gN1 p j.toNat) := J.n
    have ha : (p.1.take 41).any badZ = false := J.a
    have := take41 (l := p.2.1) (n := 101) J.i0 J.i1 J.i2 (by rcases hj with h | h; exact .inl h; exact .inr (by omega))
    dsimp only
    refine pr ?_
    have e : gN1 p 101 = gN1 p j.toNat := by unfold gN1; rw [this]
    unfold greatP
    rw [ha, Bool.false_or, e, ← hn, Bool.or_assoc, decide_eq_decide.2 (show (p.1.length : Int) > 40 ↔ 40 < p.1.length by omega), decide_eq_decide.2 (show (p.2.1.length : Int) > 100 ↔ 100 < p.2.1.length by omega)]
/-- what is not too great -/
theorem great_f {p : Pl} (h : greatP p = false) : p.1.length ≤ 40 ∧ (∀ z ∈ p.1, z.2.1.length ≤ 60 ∧ z.1.size ≤ 400) ∧ p.2.1.length ≤ 100 := by
  unfold greatP at h
  simp only [Bool.or_eq_false_iff, decide_eq_false_iff_not] at h
  obtain ⟨h1, h2, h3, _⟩ := h
  have h2 : p.1.length ≤ 40 := by omega
  refine ⟨h2, fun z hz => ?_, by omega⟩
  rw [List.take_of_length_le (by omega), List.any_eq_false] at h1
  have := (bad_f z).1 (by simpa using h1 z hz)
  omega
theorem reach47 : reachBytes ≤ 140737488355328 := by decide
theorem sm_bnd {p : Pl} (h : greatP p = false) (hb : Bnd PlanT p) : Sm p := by
  obtain ⟨g1, g2, g3⟩ := great_f h
  obtain ⟨⟨_, b1⟩, ⟨_, b2⟩, _, ⟨b3, _⟩, _⟩ := hb
  refine ⟨by omega, fun z hz => ⟨by have := (g2 z hz).1; omega, fun r hr => ?_⟩, by omega, fun f hf => ?_, ?_⟩
  · exact Nat.le_trans ((b1 z hz).2.1.2 r hr).1 reach47
  · exact Nat.le_trans (b2 f hf).2.1.1 reach47
  · exact Nat.le_trans b3 reach47
theorem okQ_great {p : Pl} (h : greatP p = false) : okQ p = true := by
  obtain ⟨g1, g2, g3⟩ := great_f h
  simp only [okQ, Bool.and_eq_true]
  exact ⟨(okZs_iff _).2 ⟨g1, fun z hz => (g2 z hz).2⟩, decide_eq_true g3⟩
end Go.Proofs.YtfhlceooobabcaaGreatDoor.Wd
set_option linter.all false
namespace Go.Proofs.YtfhlceooobabcaaGreatDoor.Wd
open Go Go.Eng Go.Lb Go.Ad
set_option maxRecDepth 100000
set_option maxHeartbeats 8000000

theorem greatW_f {w : Wd} (h : greatW w = false) : greatP w.1 = false ∧ w.2.2.1.length ≤ 300 ∧ w.2.2.2.2.2.2.1.length ≤ 600 ∧ w.2.2.2.1.length ≤ 400 ∧ w.2.2.2.2.1.length ≤ 400 := by
  simp only [greatW, greatS, Bool.or_eq_false_iff, decide_eq_false_iff_not] at h
  obtain ⟨h1, ⟨h2, h3⟩, h4, h5⟩ := h
  exact ⟨h1, by omega, by omega, by omega, by omega⟩
theorem smW_new {p : Pl} (h : Sm p) : SmW (newW p) := by
  unfold newW
  cases checkB p with
  | true => exact ⟨h, Nat.zero_le _, Nat.zero_le _, Nat.zero_le _, Nat.zero_le _⟩
  | false => exact ⟨⟨Nat.zero_le _, fun z hz => (by cases hz), Nat.zero_le _, fun f hf => (by cases hf), Nat.zero_le _⟩, Nat.zero_le _, Nat.zero_le _, Nat.zero_le _, Nat.zero_le _⟩
theorem smW_tick {w : Wd} (h : SmW w) : SmW (tickW w) := by
  unfold tickW
  cases decide (w.1.2.2.1 ≤ w.2.1) with
  | true => exact h
  | false => exact ⟨h.p, h.s, h.d, h.l, h.m⟩
theorem smW_drop {w : Wd} (h : SmW w) : SmW (dropW w) := by
  unfold dropW
  cases canDrop w with
  | false => exact h
  | true =>
    refine ⟨h.p, ?_, h.d, h.l, h.m⟩
    show List.length (bif decide (Sk.drE w.2.2.1 (dropN w) = 0) then Sk.drA w.2.2.1 (dropN w) else w.2.2.1) ≤ _
    cases decide (Sk.drE w.2.2.1 (dropN w) = 0) with
    | false => exact h.s
    | true =>
      show List.length (Sk.drA w.2.2.1 (dropN w)) ≤ _
      unfold Sk.drA
      split
      · rw [Sk.deadL, List.length_set]; exact h.s
      · exact Nat.zero_le _
theorem v3 : Vc g3 300 Tryz.f3 (cLs aPlans) := by
  constructor
  rw [v3_eq]
  simp only [Wr_iff, bcase_iff, true_and, and_true, decide_eq_true_eq, decide_eq_false_iff_not, Bool.and_eq_true, Bool.and_eq_false_iff, Bool.or_eq_true, Bool.or_eq_false_iff, Bool.not_eq_true', Bool.not_eq_false', Option.map_some, Option.getD_some, Option.isSome_some, Option.isSome_map, imp_self, nilL, noneO]
  rintro ⟨p, w, ⟨⟩⟩ hb
  have hbp : Bnd PlanT p := hb.1
  have hbw : Bnd PlanT w.1 := hb.2.1.1
  have dr : ∀ q : Pl, Bnd PlanT q → okR q = true := fun q hq => decide_eq_true (Nat.le_trans hq.2.2.2.1.1 reach47)
  dsimp only
  refine ⟨dr _ hbp, fun _ => dr _ hbw, fun _ => trivial, fun h => ?_⟩
  obtain ⟨g1, g2, g3, g4, g5⟩ := greatW_f h.2
  have sp := sm_bnd h.1 hbp
  have sw : SmW w := ⟨sm_bnd g1 hbw, by omega, by omega, by omega, by omega⟩
  have okn : okN w.2.2.1 = true := decide_eq_true (Nat.le_trans g2 (by omega))
  exact ⟨okQ_great h.1, smW_new sp, by simp, fun _ => ⟨smW_tick sw, by simp, fun _ => ⟨okn, okn, smW_drop sw, by simp⟩⟩⟩
end Go.Proofs.YtfhlceooobabcaaGreatDoor.Wd
namespace Go.Proofs.YtfhlceooobabcaaGreatDoor.Wd
open Go Go.Eng Go.Lb Go.Ad
set_option maxRecDepth 100000
theorem val151 : Valid Tryz.prog GW 151 cLetter := mkValid gws Tb.mix Tb.tab_ok Tb.eqs_ok g151 rfl allV_nil allI_nil Tryz.func151 (by kernel_rfl) v151
theorem val171 : Valid Tryz.prog GW 171 cSign := mkValid gws Tb.mix Tb.tab_ok Tb.eqs_ok g171 rfl (allV_cons val151 allV_nil) allI_nil Tryz.func171 (by kernel_rfl) v171
theorem val150 : Valid Tryz.prog GW 150 cOne := mkValid gws Tb.mix Tb.tab_ok Tb.eqs_ok g150 rfl allV_nil (allI_cons Tryz.func172 (by kernel_rfl) allI_nil) Tryz.func150 (by kernel_rfl) v150
theorem val149 : Valid Tryz.prog GW 149 cValid1 := mkValid gws Tb.mix Tb.tab_ok Tb.eqs_ok g149 rfl (allV_cons val150 (allV_cons val171 allV_nil)) allI_nil Tryz.func149 (by kernel_rfl) v149
theorem val128 : Valid Tryz.prog GW 128 cFoldR := mkValid gws Tb.mix Tb.tab_ok Tb.eqs_ok g128 rfl (allV_cons val149 (allV_cons val150 (allV_cons val151 allV_nil))) allI_nil Tryz.func128 (by kernel_rfl) v128
theorem val112 : Valid Tryz.prog GW 112 cMay1 := mkValid gws Tb.mix Tb.tab_ok Tb.eqs_ok g112 rfl allV_nil allI_nil Tryz.func112 (by kernel_rfl) v112
theorem val77 : Valid Tryz.prog GW 77 cMay := mkValid gws Tb.mix Tb.tab_ok Tb.eqs_ok g77 rfl (allV_cons val112 allV_nil) allI_nil Tryz.func77 (by kernel_rfl) v77
theorem val129 : Valid Tryz.prog GW 129 cOnce := mkValid gws Tb.mix Tb.tab_ok Tb.eqs_ok g129 rfl (allV_cons val77 allV_nil) allI_nil Tryz.func129 (by kernel_rfl) v129
theorem val90 : Valid Tryz.prog GW 90 cZones := mkValid gws Tb.mix Tb.tab_ok Tb.eqs_ok g90 rfl (allV_cons val128 (allV_cons val129 allV_nil)) allI_nil Tryz.func90 (by kernel_rfl) v90
theorem val91 : Valid Tryz.prog GW 91 cFates := mkValid gws Tb.mix Tb.tab_ok Tb.eqs_ok g91 rfl (allV_cons val77 allV_nil) allI_nil Tryz.func91 (by kernel_rfl) v91
theorem val37 : Valid Tryz.prog GW 37 cCheckR := mkValid gws Tb.mix Tb.tab_ok Tb.eqs_ok g37 rfl (allV_cons val90 (allV_cons val91 allV_nil)) allI_nil Tryz.func37 (by kernel_rfl) v37
theorem val11 : Valid Tryz.prog GW 11 cNewR := mkValid gws Tb.mix Tb.tab_ok Tb.eqs_ok g11 rfl (allV_cons val37 allV_nil) allI_nil Tryz.func11 (by kernel_rfl) v11
theorem val14 : Valid Tryz.prog GW 14 cTick := mkValid gws Tb.mix Tb.tab_ok Tb.eqs_ok g14 rfl allV_nil allI_nil Tryz.func14 (by kernel_rfl) v14
theorem val96 : Valid Tryz.prog GW 96 ((cClone 111 64 SockT)) := mkValid gws Tb.mix Tb.tab_ok Tb.eqs_ok g96 rfl allV_nil allI_nil Tryz.func96 (by kernel_rfl) v96
theorem val44 : Valid Tryz.prog GW 44 cDropS := mkValid gws Tb.mix Tb.tab_ok Tb.eqs_ok g44 rfl (allV_cons val96 allV_nil) allI_nil Tryz.func44 (by kernel_rfl) v44
theorem val16 : Valid Tryz.prog GW 16 cDropW := mkValid gws Tb.mix Tb.tab_ok Tb.eqs_ok g16 rfl (allV_cons val44 allV_nil) allI_nil Tryz.func16 (by kernel_rfl) v16
theorem val7 : Valid Tryz.prog GW 7 cGreatP := mkValid gws Tb.mix Tb.tab_ok Tb.eqs_ok g7 rfl allV_nil allI_nil Tryz.func7 (by kernel_rfl) v7
theorem val34 : Valid Tryz.prog GW 34 cGreatS := mkValid gws Tb.mix Tb.tab_ok Tb.eqs_ok g34 rfl allV_nil allI_nil Tryz.func34 (by kernel_rfl) v34
theorem val8 : Valid Tryz.prog GW 8 cGreatW := mkValid gws Tb.mix Tb.tab_ok Tb.eqs_ok g8 rfl (allV_cons val7 (allV_cons val34 allV_nil)) allI_nil Tryz.func8 (by kernel_rfl) v8
theorem val3 : Valid Tryz.prog GW 3 ((cLs aPlans)) := mkValid gws Tb.mix Tb.tab_ok Tb.eqs_ok g3 rfl (allV_cons val7 (allV_cons val8 (allV_cons val9 (allV_cons val10 (allV_cons val11 (allV_cons val12 (allV_cons val13 (allV_cons val14 (allV_cons val15 (allV_cons val16 allV_nil)))))))))) allI_nil Tryz.func3 (by kernel_rfl) v3
end Go.Proofs.YtfhlceooobabcaaGreatDoor.Wd

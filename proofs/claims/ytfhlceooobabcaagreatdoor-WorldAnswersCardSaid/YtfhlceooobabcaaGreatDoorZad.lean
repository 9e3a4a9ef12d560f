/-
  A text of mine, of several parts: ZdDef0, Zd0Cfg, Zd0Vc, ZdP0, ZdP0b, ZdLib, ZdFold, Zd0V, ZdDef1, Zd1Cfg, Zd1Vc, ZdP1, ZdP2, Zd1V, ZdDef2, Zd2Cfg, Zd2Vc.
-/
import Derived.Test.YtfhlceooobabcaaGreatDoorZaa
import Derived.Test.YtfhlceooobabcaaGreatDoorZab
import Derived.Test.YtfhlceooobabcaaGreatDoorZac
import Derived.WalkSmall
import Derived.Lib.SmallJoins
import Derived.WalkKit
import Derived.BigCall
import Derived.Lib.OthersKept
set_option linter.all false
set_option maxRecDepth 100000
namespace Go.Proofs.YtfhlceooobabcaaGreatDoor.Wd
open Go Go.Eng Go.Lb Go.Ad
abbrev I64 : Ty := .int .i64
abbrev I32 : Ty := .int .i32
abbrev U8 : Ty := .int .u8
abbrev Big : Nat := 4000000000
/-- a contract whose condition is told by evaluation -/
def conD (a r : Ty) (p : a.El → Bool) (F : a.El → r.El) : Contract := { a := a, r := r, pre := fun x => p x = true, F := F, preB := p, preOk := fun _ h => h }
def szOk (s : ByteArray) : Bool := decide (s.size ≤ 4000000000)
def cSplitS : Contract := conD (.cons .str (.cons .str .unit)) (.cons (.sl .str) .unit) (fun x => szOk x.1 && decide (x.2.1.size = 1)) fun x => (splitS x.1 x.2.1, ())
def cSign : Contract := conD (.cons I32 .unit) (.cons .bool .unit) (fun _ => true) fun x => (signZ x.1, ())
def cLetter : Contract := conD (.cons I32 .unit) (.cons .bool .unit) (fun _ => true) fun x => (letterZ x.1, ())
def cPart : Contract := conD (.cons .str .unit) (.cons .bool .unit) (fun x => szOk x.1) fun x => (partB x.1, ())
def listOk (l : List ByteArray) : Bool := decide (l.length ≤ 100000)
def allValid (l : List ByteArray) : Bool := l.all validB
def cValid : Contract := conD (.cons (.sl .str) .unit) (.cons .bool .unit) (fun x => listOk x.1) fun x => (allValid x.1, ())
def cFold : Contract := conD (.cons .str .unit) (.cons .str (.cons I64 .unit)) (fun _ => true) fun x => (fold1 x.1, (fold2 x.1, ()))
def iterP (s : St) (sl : Nat) : Box Nat := match Go.Eng.look s.env sl with
  | .own o => match lookO s.own o with
    | .iter _ p => ⟨p⟩
    | _ => ⟨0⟩
  | _ => ⟨0⟩
def iterO (s : St) (sl : Nat) (str : ByteArray) (p : Nat) : Go.Eng.Own := match Go.Eng.look s.env sl with
  | .own o => [(o, .iter str p)]
  | _ => []
def signR (s : ByteArray) (p : Nat) : Bool := (its (restL s p)).all signIt
structure PartI (s : ByteArray) (p : Nat) : Prop where
  a : signR s p = signR s 0
  p : p ≤ s.size
def partA : LoopAnn where
  α := Nat
  keep := [0, 6]
  okeep := []
  nxt := 5
  env := fun _ _ => []
  own := fun s x => iterO s 6 (bDat .str s 0).out x
  inv := fun s x => PartI (bDat .str s 0).out x
  mu := fun s x => (bDat .str s 0).out.size - x
  pick := some fun _ s => (iterP s 6).out
structure AllI (p : ByteArray → Bool) (l : List ByteArray) (i : Int) : Prop where
  i0 : 0 ≤ i
  i1 : i ≤ l.length
  a : (l.drop i.toNat).all p = l.all p
def validA : LoopAnn where
  α := Int
  keep := [0, 8, 9]
  okeep := []
  nxt := 20
  env := fun _ x => [(10, .dat I64 x), (3, .dat .bool true)]
  own := fun _ _ => []
  inv := fun s x => AllI validB (bDat (.sl .str) s 8).out x
  mu := fun s x => (bDat (.sl .str) s 8).out.length - x.toNat
  pick := some fun _ s => (bDat I64 s 10).out
def validB8 : LoopAnn where
  α := Int
  keep := [0, 5, 8, 9, 10, 20, 21]
  okeep := []
  nxt := 20
  env := fun _ x => [(22, .dat I64 x), (3, .dat .bool true)]
  own := fun _ _ => []
  inv := fun s x => AllI partB (bDat (.sl .str) s 20).out x
  mu := fun s x => (bDat (.sl .str) s 20).out.length - x.toNat
  pick := some fun _ s => (bDat I64 s 22).out
abbrev I8 : Ty := .int .i8
abbrev U16 : Ty := .int .u16
abbrev AdT : Ty := .cons I8 (.cons (.arr 8 U16) (.cons I64 .unit))
abbrev AdL : Ty := .sl AdT
def lenA (l : List Ad) : Bool := decide (List.length l ≤ 100000)
def cMay : Contract := conD (.cons AdL .unit) (.cons .bool .unit) (fun x => lenA x.1) fun x => (mayA x.1, ())
structure MayI (l : List Ad) (i : Int) : Prop where
  i0 : 0 ≤ i
  i1 : i ≤ l.length
  a : (l.take i.toNat).all may1 = true
def mayL : LoopAnn where
  α := Int
  keep := [0, 6, 7]
  okeep := []
  nxt := 30
  env := fun _ x => [(8, .dat I64 x)]
  own := fun _ _ => []
  inv := fun s x => MayI (bDat AdL s 6).out x
  mu := fun s x => List.length (α := Ad) (bDat AdL s 6).out - x.toNat
  pick := some fun _ s => (bDat I64 s 8).out
end Go.Proofs.YtfhlceooobabcaaGreatDoor.Wd
namespace Go.Proofs.YtfhlceooobabcaaGreatDoor.Wd
open Go Go.Eng Go.Lb Go.Ad
set_option maxRecDepth 100000
noncomputable def g193 : Cfg := { tab := Tb.tab, cons := [], inls := [], loops := [], cuts := [], unroll := false, arrs := [], keys := [] }
noncomputable def g183 : Cfg := { tab := Tb.tab, cons := [(193, cLetter)], inls := [], loops := [], cuts := [], unroll := false, arrs := [], keys := [] }
noncomputable def g168 : Cfg := { tab := Tb.tab, cons := [(183, cSign)], inls := [], loops := [(2, partA)], cuts := [], unroll := false, arrs := [], keys := [] }
noncomputable def g143 : Cfg := { tab := Tb.tab, cons := [(167, cSplitS), (168, cPart)], inls := [], loops := [(3, validA), (8, validB8)], cuts := [], unroll := false, arrs := [], keys := [] }
noncomputable def g45 : Cfg := { tab := Tb.tab, cons := [], inls := [], loops := [(2, mayL)], cuts := [], unroll := false, arrs := [], keys := [] }
end Go.Proofs.YtfhlceooobabcaaGreatDoor.Wd
namespace Go.Proofs.YtfhlceooobabcaaGreatDoor.Wd
open Go Go.Eng Go.Lb Go.Ad
set_option maxRecDepth 100000
theorem v193_eq : vcFn g193 300 Tryz.f193 cLetter = ( ∀ (x : Int × Unit), Wr (Bool.true = Bool.true) → bcase (Decidable.decide ((97 : Int) ≤ x.fst) && Decidable.decide (x.fst ≤ (122 : Int))) (bcase (Decidable.decide ((97 : Int) ≤ x.fst) && Decidable.decide (x.fst ≤ (122 :
  Int))) ((Bool.true, ()) = (Go.Lb.letterZ x.fst, ())) (bcase (Decidable.decide (x.fst = (215 : Int))) (bcase (Decidable.decide (x.fst = (215 : Int))) ((Bool.false, ()) = (Go.Lb.letterZ x.fst, ())) ((Decidable.decide
  ((192 : Int) ≤ x.fst) && Decidable.decide (x.fst ≤ (591 : Int)), ()) = (Go.Lb.letterZ x.fst, ()))) (bcase (Decidable.decide (x.fst = (247 : Int))) ((Bool.false, ()) = (Go.Lb.letterZ x.fst, ())) ((Decidable.decide ((192
  : Int) ≤ x.fst) && Decidable.decide (x.fst ≤ (591 : Int)), ()) = (Go.Lb.letterZ x.fst, ()))))) (bcase (Decidable.decide ((65 : Int) ≤ x.fst) && Decidable.decide (x.fst ≤ (90 : Int))) ((Bool.true, ()) = (Go.Lb.letterZ
  x.fst, ())) (bcase (Decidable.decide (x.fst = (215 : Int))) (bcase (Decidable.decide (x.fst = (215 : Int))) ((Bool.false, ()) = (Go.Lb.letterZ x.fst, ())) ((Decidable.decide ((192 : Int) ≤ x.fst) && Decidable.decide
  (x.fst ≤ (591 : Int)), ()) = (Go.Lb.letterZ x.fst, ()))) (bcase (Decidable.decide (x.fst = (247 : Int))) ((Bool.false, ()) = (Go.Lb.letterZ x.fst, ())) ((Decidable.decide ((192 : Int) ≤ x.fst) && Decidable.decide (x.fst
  ≤ (591 : Int)), ()) = (Go.Lb.letterZ x.fst, ())))))) := by kernel_rfl
theorem v183_eq : vcFn g183 300 Tryz.f183 cSign = ( ∀ (x : Int × Unit), Wr (Bool.true = Bool.true) → Wr ((!(Decidable.decide (x.fst = (45 : Int)) || Decidable.decide ((48 : Int) ≤ x.fst) && Decidable.decide (x.fst ≤ (57 : Int)))) = Bool.true → Bool.true = Bool.true) ∧
  (Decidable.decide (x.fst = (45 : Int)) || Decidable.decide ((48 : Int) ≤ x.fst) && Decidable.decide (x.fst ≤ (57 : Int)) || Go.Lb.letterZ x.fst, ()) = (Go.Lb.signZ x.fst, ())) := by kernel_rfl
theorem v168_eq : vcFn g168 300 Tryz.f168 cPart = ( ∀ (x : ByteArray × Unit), Wr (szOk x.fst = Bool.true) → (Wr (PartI x.fst (0 : Nat)) ∧ Wr (x.fst = x.fst) ∧ Wr (x.fst = x.fst) ∧ Wr ((0 : Nat) = (0 : Nat))) ∧ ∀ (x_1 : Nat), Wr (PartI x.fst x_1) → bcase (Decidable.decide
  (x_1 < ByteArray.size x.fst)) (Wr (Bool.true = Bool.true) ∧ bcase (!Go.Lb.signZ (runeAt x.fst x_1)) ((Bool.false, ()) = (Go.Lb.partB x.fst, ())) (Wr (PartI x.fst (nextP x.fst x_1)) ∧ Wr (ByteArray.size x.fst - nextP
  x.fst x_1 < ByteArray.size x.fst - x_1) ∧ Wr (x.fst = x.fst) ∧ Wr (x.fst = x.fst) ∧ Wr (nextP x.fst x_1 = nextP x.fst x_1))) (Wr ((!Decidable.decide (x.fst = ByteArray.mk (List.toArray (nilL UInt8)))) = Bool.true → (0 :
  Int) ≤ (0 : Int)) ∧ Wr ((!Decidable.decide (x.fst = ByteArray.mk (List.toArray (nilL UInt8)))) = Bool.true → (0 : Int) < (↑(ByteArray.size x.fst) : Int)) ∧ Wr ((!Decidable.decide (x.fst = ByteArray.mk (List.toArray
  (nilL UInt8))) && !Decidable.decide (byteAt x.fst (Int.toNat (0 : Int)) = (45 : Int))) = Bool.true → (0 : Int) ≤ IntKind.wrap IntKind.i64 ((↑(ByteArray.size x.fst) : Int) - (1 : Int))) ∧ Wr ((!Decidable.decide (x.fst =
  ByteArray.mk (List.toArray (nilL UInt8))) && !Decidable.decide (byteAt x.fst (Int.toNat (0 : Int)) = (45 : Int))) = Bool.true → IntKind.wrap IntKind.i64 ((↑(ByteArray.size x.fst) : Int) - (1 : Int)) < (↑(ByteArray.size
  x.fst) : Int)) ∧ (!Decidable.decide (x.fst = ByteArray.mk (List.toArray (nilL UInt8))) && !Decidable.decide (byteAt x.fst (Int.toNat (0 : Int)) = (45 : Int)) && !Decidable.decide (byteAt x.fst (Int.toNat (IntKind.wrap
  IntKind.i64 ((↑(ByteArray.size x.fst) : Int) - (1 : Int)))) = (45 : Int)), ()) = (Go.Lb.partB x.fst, ()))) := by kernel_rfl
theorem v143_eq : vcFn g143 300 Tryz.f143 cValid = ( ∀ (x : List ByteArray × Unit), Wr (listOk x.fst = Bool.true) → (Wr (AllI Go.Lb.validB x.fst (0 : Int)) ∧ Wr ((0 : Int) = (0 : Int)) ∧ Wr (Bool.true = Bool.true) ∧ Wr (x.fst = x.fst) ∧ Wr (x.fst = x.fst) ∧ Wr
  ((↑(List.length x.fst) : Int) = (↑(List.length x.fst) : Int))) ∧ ∀ (x_1 : Int), Wr (AllI Go.Lb.validB x.fst x_1) → bcase (Decidable.decide (x_1 < (↑(List.length x.fst) : Int))) (Wr ((0 : Int) ≤ x_1) ∧ Wr (x_1 <
  (↑(List.length x.fst) : Int)) ∧ Wr (Bool.true = Bool.true) ∧ bcase (!Decidable.decide ((↑(ByteArray.size (List.getD x.fst (Int.toNat x_1) (Ty.zero Ty.str))) : Int) ≤ (64 : Int))) ((Decidable.decide ((↑(ByteArray.size
  (List.getD x.fst (Int.toNat x_1) (Ty.zero Ty.str))) : Int) ≤ (64 : Int)), ()) = (allValid x.fst, ())) (Wr ((szOk (List.getD x.fst (Int.toNat x_1) (Ty.zero Ty.str)) && Decidable.decide (ByteArray.size (ByteArray.mk
  (List.toArray ((46 : UInt8) :: nilL UInt8))) = (1 : Nat))) = Bool.true) ∧ (Wr (AllI Go.Lb.partB (Go.Lb.splitS (List.getD x.fst (Int.toNat x_1) (Ty.zero Ty.str)) (ByteArray.mk (List.toArray ((46 : UInt8) :: nilL
  UInt8)))) (0 : Int)) ∧ Wr ((0 : Int) = (0 : Int)) ∧ Wr (Decidable.decide ((↑(ByteArray.size (List.getD x.fst (Int.toNat x_1) (Ty.zero Ty.str))) : Int) ≤ (64 : Int)) = Bool.true) ∧ Wr (x.fst = x.fst) ∧ Wr (List.getD
  x.fst (Int.toNat x_1) (Ty.zero Ty.str) = List.getD x.fst (Int.toNat x_1) (Ty.zero Ty.str)) ∧ Wr (x.fst = x.fst) ∧ Wr ((↑(List.length x.fst) : Int) = (↑(List.length x.fst) : Int)) ∧ Wr (x_1 = x_1) ∧ Wr (Go.Lb.splitS
  (List.getD x.fst (Int.toNat x_1) (Ty.zero Ty.str)) (ByteArray.mk (List.toArray ((46 : UInt8) :: nilL UInt8))) = Go.Lb.splitS (List.getD x.fst (Int.toNat x_1) (Ty.zero Ty.str)) (ByteArray.mk (List.toArray ((46 : UInt8)
  :: nilL UInt8)))) ∧ Wr ((↑(List.length (Go.Lb.splitS (List.getD x.fst (Int.toNat x_1) (Ty.zero Ty.str)) (ByteArray.mk (List.toArray ((46 : UInt8) :: nilL UInt8))))) : Int) = (↑(List.length (Go.Lb.splitS (List.getD x.fst
  (Int.toNat x_1) (Ty.zero Ty.str)) (ByteArray.mk (List.toArray ((46 : UInt8) :: nilL UInt8))))) : Int))) ∧ ∀ (x_2 : Int), Wr (AllI Go.Lb.partB (Go.Lb.splitS (List.getD x.fst (Int.toNat x_1) (Ty.zero Ty.str))
  (ByteArray.mk (List.toArray ((46 : UInt8) :: nilL UInt8)))) x_2) → bcase (Decidable.decide (x_2 < (↑(List.length (Go.Lb.splitS (List.getD x.fst (Int.toNat x_1) (Ty.zero Ty.str)) (ByteArray.mk (List.toArray ((46 : UInt8)
  :: nilL UInt8))))) : Int))) (Wr ((0 : Int) ≤ x_2) ∧ Wr (x_2 < (↑(List.length (Go.Lb.splitS (List.getD x.fst (Int.toNat x_1) (Ty.zero Ty.str)) (ByteArray.mk (List.toArray ((46 : UInt8) :: nilL UInt8))))) : Int)) ∧ Wr
  (Bool.true = Bool.true) ∧ Wr (szOk (List.getD (Go.Lb.splitS (List.getD x.fst (Int.toNat x_1) (Ty.zero Ty.str)) (ByteArray.mk (List.toArray ((46 : UInt8) :: nilL UInt8)))) (Int.toNat x_2) (Ty.zero Ty.str)) = Bool.true) ∧
  bcase (!Go.Lb.partB (List.getD (Go.Lb.splitS (List.getD x.fst (Int.toNat x_1) (Ty.zero Ty.str)) (ByteArray.mk (List.toArray ((46 : UInt8) :: nilL UInt8)))) (Int.toNat x_2) (Ty.zero Ty.str))) ((Go.Lb.partB (List.getD
  (Go.Lb.splitS (List.getD x.fst (Int.toNat x_1) (Ty.zero Ty.str)) (ByteArray.mk (List.toArray ((46 : UInt8) :: nilL UInt8)))) (Int.toNat x_2) (Ty.zero Ty.str)), ()) = (allValid x.fst, ())) (Wr (AllI Go.Lb.partB
  (Go.Lb.splitS (List.getD x.fst (Int.toNat x_1) (Ty.zero Ty.str)) (ByteArray.mk (List.toArray ((46 : UInt8) :: nilL UInt8)))) (IntKind.wrap IntKind.i64 (x_2 + (1 : Int)))) ∧ Wr (List.length (Go.Lb.splitS (List.getD x.fst
  (Int.toNat x_1) (Ty.zero Ty.str)) (ByteArray.mk (List.toArray ((46 : UInt8) :: nilL UInt8)))) - Int.toNat (IntKind.wrap IntKind.i64 (x_2 + (1 : Int))) < List.length (Go.Lb.splitS (List.getD x.fst (Int.toNat x_1)
  (Ty.zero Ty.str)) (ByteArray.mk (List.toArray ((46 : UInt8) :: nilL UInt8)))) - Int.toNat x_2) ∧ Wr (IntKind.wrap IntKind.i64 (x_2 + (1 : Int)) = IntKind.wrap IntKind.i64 (x_2 + (1 : Int))) ∧ Wr (Go.Lb.partB (List.getD
  (Go.Lb.splitS (List.getD x.fst (Int.toNat x_1) (Ty.zero Ty.str)) (ByteArray.mk (List.toArray ((46 : UInt8) :: nilL UInt8)))) (Int.toNat x_2) (Ty.zero Ty.str)) = Bool.true) ∧ Wr (x.fst = x.fst) ∧ Wr (List.getD x.fst
  (Int.toNat x_1) (Ty.zero Ty.str) = List.getD x.fst (Int.toNat x_1) (Ty.zero Ty.str)) ∧ Wr (x.fst = x.fst) ∧ Wr ((↑(List.length x.fst) : Int) = (↑(List.length x.fst) : Int)) ∧ Wr (x_1 = x_1) ∧ Wr (Go.Lb.splitS (List.getD
  x.fst (Int.toNat x_1) (Ty.zero Ty.str)) (ByteArray.mk (List.toArray ((46 : UInt8) :: nilL UInt8))) = Go.Lb.splitS (List.getD x.fst (Int.toNat x_1) (Ty.zero Ty.str)) (ByteArray.mk (List.toArray ((46 : UInt8) :: nilL
  UInt8)))) ∧ Wr ((↑(List.length (Go.Lb.splitS (List.getD x.fst (Int.toNat x_1) (Ty.zero Ty.str)) (ByteArray.mk (List.toArray ((46 : UInt8) :: nilL UInt8))))) : Int) = (↑(List.length (Go.Lb.splitS (List.getD x.fst
  (Int.toNat x_1) (Ty.zero Ty.str)) (ByteArray.mk (List.toArray ((46 : UInt8) :: nilL UInt8))))) : Int)))) (Wr (AllI Go.Lb.validB x.fst (IntKind.wrap IntKind.i64 (x_1 + (1 : Int)))) ∧ Wr (List.length x.fst - Int.toNat
  (IntKind.wrap IntKind.i64 (x_1 + (1 : Int))) < List.length x.fst - Int.toNat x_1) ∧ Wr (IntKind.wrap IntKind.i64 (x_1 + (1 : Int)) = IntKind.wrap IntKind.i64 (x_1 + (1 : Int))) ∧ Wr (Bool.true = Bool.true) ∧ Wr (x.fst =
  x.fst) ∧ Wr (x.fst = x.fst) ∧ Wr ((↑(List.length x.fst) : Int) = (↑(List.length x.fst) : Int))))) ((Bool.true, ()) = (allValid x.fst, ()))) := by kernel_rfl
theorem v45_eq : vcFn g45 300 Tryz.f45 cMay = ( ∀ (x : List (Int × (Int × Int × Int × Int × Int × Int × Int × Int × Unit) × Int × Unit) × Unit), Wr (lenA x.fst = Bool.true) → (Wr (MayI x.fst (0 : Int)) ∧ Wr ((0 : Int) = (0 : Int)) ∧ Wr (x.fst = x.fst) ∧ Wr (x.fst =
  x.fst) ∧ Wr ((↑(List.length x.fst) : Int) = (↑(List.length x.fst) : Int))) ∧ ∀ (x_1 : Int), Wr (MayI x.fst x_1) → bcase (Decidable.decide (x_1 < (↑(List.length x.fst) : Int))) (Wr ((0 : Int) ≤ x_1) ∧ Wr (x_1 <
  (↑(List.length x.fst) : Int)) ∧ Wr (Bool.true = Bool.true) ∧ bcase (Decidable.decide ((List.getD x.fst (Int.toNat x_1) (Ty.zero AdT)).snd.snd.fst < (1 : Int)) || Decidable.decide ((List.getD x.fst (Int.toNat x_1)
  (Ty.zero AdT)).snd.snd.fst > (65535 : Int)) || !Decidable.decide ((List.getD x.fst (Int.toNat x_1) (Ty.zero AdT)).fst = (6 : Int)) && (!Decidable.decide ((List.getD x.fst (Int.toNat x_1) (Ty.zero AdT)).fst = (4 : Int))
  || !Ty.eqb (Ty.cons (Ty.int IntKind.i8) (Ty.cons (Ty.arr (8 : Nat) (Ty.int IntKind.u16)) (Ty.cons (Ty.int IntKind.i64) Ty.unit))) (List.getD x.fst (Int.toNat x_1) (Ty.zero AdT)) ((List.getD x.fst (Int.toNat x_1)
  (Ty.zero AdT)).fst, ((List.getD x.fst (Int.toNat x_1) (Ty.zero AdT)).snd.fst.fst, (List.getD x.fst (Int.toNat x_1) (Ty.zero AdT)).snd.fst.snd.fst, (0 : Int), (0 : Int), (0 : Int), (0 : Int), (0 : Int), (0 : Int), ()),
  (List.getD x.fst (Int.toNat x_1) (Ty.zero AdT)).snd.snd))) ((Bool.false, ()) = (Go.Ad.mayA x.fst, ())) (Wr (MayI x.fst (IntKind.wrap IntKind.i64 (x_1 + (1 : Int)))) ∧ Wr (List.length x.fst - Int.toNat (IntKind.wrap
  IntKind.i64 (x_1 + (1 : Int))) < List.length x.fst - Int.toNat x_1) ∧ Wr (IntKind.wrap IntKind.i64 (x_1 + (1 : Int)) = IntKind.wrap IntKind.i64 (x_1 + (1 : Int))) ∧ Wr (x.fst = x.fst) ∧ Wr (x.fst = x.fst) ∧ Wr
  ((↑(List.length x.fst) : Int) = (↑(List.length x.fst) : Int)))) ((Bool.true, ()) = (Go.Ad.mayA x.fst, ()))) := by kernel_rfl
end Go.Proofs.YtfhlceooobabcaaGreatDoor.Wd
set_option linter.all false
namespace Go.Proofs.YtfhlceooobabcaaGreatDoor.Wd
open Go Go.Eng Go.Lb Go.Ad
set_option maxRecDepth 100000
set_option maxHeartbeats 2000000
theorem szOk_iff (s : ByteArray) : szOk s = true ↔ s.size ≤ 4000000000 := by simp [szOk]
theorem signR_next {s : ByteArray} {p : Nat} (h : p < s.size) : signR s p = (signIt (hd1 (restL s p)) && signR s (nextP s p)) := by
  unfold signR
  rw [its_rest h, List.all_cons]
theorem signR_end {s : ByteArray} {p : Nat} (h : s.size ≤ p) : signR s p = true := by unfold signR; rw [restL_end h]; rfl
theorem w64 {n : Int} (h0 : 0 ≤ n) (h1 : n ≤ 9000000000000000000) : IntKind.wrap .i64 n = n := by
  simp [IntKind.wrap, IntKind.signed, IntKind.bits]; omega
theorem its_len (l : List UInt8) : (its l).length ≤ l.length := by
  induction l using its_ind with
  | h0 => simp [its_nil]
  | h1 l hl ih =>
    rw [its_cons hl, List.length_cons]
    have := wid_pos l
    have := List.length_pos_iff.2 hl
    rw [List.length_drop] at ih
    omega
theorem v193 : Vc g193 300 Tryz.f193 cLetter := by
  constructor
  rw [v193_eq]
  simp only [Wr_iff, bcase_iff, true_and, and_true, decide_eq_true_eq, decide_eq_false_iff_not, Bool.and_eq_true, Bool.and_eq_false_iff, Bool.or_eq_true, Bool.or_eq_false_iff, Bool.not_eq_true', Bool.not_eq_false', Option.map_some, Option.getD_some, Option.isSome_some, Option.isSome_map, imp_self, nilL, noneO]
  intro x
  generalize x.fst = n
  intro _
  simp only [Prod.mk.injEq, and_true, letterZ, isLetter]
  have key : ∀ b : Bool, (b = true ↔ ((97 ≤ n ∧ n ≤ 122) ∨ (65 ≤ n ∧ n ≤ 90) ∨ (192 ≤ n ∧ n ≤ 591 ∧ n ≠ 215 ∧ n ≠ 247))) → b = (decide (0 ≤ n) && (decide (97 ≤ n.toNat) && decide (n.toNat ≤ 122) || decide (65 ≤ n.toNat) && decide (n.toNat ≤ 90) ||
      decide (192 ≤ n.toNat) && decide (n.toNat ≤ 591) && decide (n.toNat ≠ 215) && decide (n.toNat ≠ 247))) := by
    intro b hb
    rw [Bool.eq_iff_iff, hb]
    simp only [Bool.and_eq_true, Bool.or_eq_true, decide_eq_true_eq]
    omega
  repeat' (first | with_reducible apply And.intro | intro _)
  all_goals (apply key; simp only [Bool.and_eq_true, Bool.or_eq_true, decide_eq_true_eq, Bool.true_eq, iff_true, true_iff, Bool.false_eq_true, false_iff, eq_self_iff_true]; omega)
theorem sign_lem (n : Int) : (decide (n = 45) || decide (48 ≤ n) && decide (n ≤ 57) || letterZ n) = signZ n := by
  unfold signZ letterZ isSign
  rw [Bool.eq_iff_iff]
  cases hl : isLetter n.toNat <;> simp only [Bool.and_eq_true, Bool.or_eq_true, decide_eq_true_eq, Bool.or_false, Bool.or_true, Bool.and_true, Bool.and_false, or_false, Bool.false_eq_true, and_true]
  · omega
  · unfold isLetter at hl
    simp only [Bool.and_eq_true, Bool.or_eq_true, decide_eq_true_eq] at hl
    omega
theorem v183 : Vc g183 300 Tryz.f183 cSign := by
  constructor
  rw [v183_eq]
  simp only [Wr_iff, bcase_iff, true_and, and_true, decide_eq_true_eq, decide_eq_false_iff_not, Bool.and_eq_true, Bool.and_eq_false_iff, Bool.or_eq_true, Bool.or_eq_false_iff, Bool.not_eq_true', Bool.not_eq_false', Option.map_some, Option.getD_some, Option.isSome_some, Option.isSome_map, imp_self, nilL, noneO]
  intro x
  generalize x.fst = n
  intro _
  exact ⟨fun _ => trivial, by rw [sign_lem]⟩
theorem signZ_it {s : ByteArray} {p : Nat} (h : p < s.size) : signZ (runeAt s p) = signIt (hd1 (restL s p)) := by
  rw [runeAt_eq h]
  unfold signZ signIt
  cases (hd1 (restL s p)).1 with
  | none => rfl
  | some c => simp
theorem byteAt_end {s : ByteArray} (h : 0 < s.size) : byteAt s (s.size - 1) = ((((bytesL s).getLast?.getD 0).toNat : Nat) : Int) ∧ byteAt s 0 = ((((bytesL s).head?.getD 0).toNat : Nat) : Int) := by
  rw [size_bytesL] at h
  rw [byteAt_eq, byteAt_eq, size_bytesL]
  cases hb : bytesL s with
  | nil => rw [hb] at h; simp at h
  | cons b r => 
    constructor
    · rw [List.getLast?_eq_getElem?, List.getD_eq_getElem?_getD]
    · rfl
theorem nil_iff {s : ByteArray} : (s = { data := #[] }) ↔ s.size = 0 := by
  constructor
  · intro h; rw [h]; rfl
  · intro h
    rw [size_bytesL] at h
    exact bytesL_inj (by rw [List.length_eq_zero_iff.1 h]; rfl)
theorem notEnd_iff {o : Option UInt8} (h : o.isSome = true) : notEnd o = !decide ((((o.getD 0).toNat : Nat) : Int) = 45) := by
  cases o with
  | none => cases h
  | some b =>
    simp only [notEnd, Option.getD_some]
    rw [Bool.eq_iff_iff]
    simp only [decide_eq_true_eq, Bool.not_eq_true', decide_eq_false_iff_not]
    constructor
    · intro h e; exact h (by apply UInt8.toNat_inj.1; show b.toNat = 45; omega)
    · intro h e; exact h (by rw [e]; rfl)
theorem v168 : Vc g168 300 Tryz.f168 cPart := by
  constructor
  rw [v168_eq]
  simp only [Wr_iff, bcase_iff, true_and, and_true, decide_eq_true_eq, decide_eq_false_iff_not, Bool.and_eq_true, Bool.and_eq_false_iff, Bool.or_eq_true, Bool.or_eq_false_iff, Bool.not_eq_true', Bool.not_eq_false', Option.map_some, Option.getD_some, Option.isSome_some, Option.isSome_map, imp_self, nilL, noneO]
  intro x
  generalize x.fst = s
  intro hs
  rw [szOk_iff] at hs
  refine ⟨⟨rfl, by omega⟩, fun p hy => ⟨fun hp => ?_, fun hp => ?_⟩⟩
  · have hn := nextP_le hp
    have hr := signR_next hp
    rw [signZ_it hp]
    refine ⟨fun h => ?_, fun h => ⟨⟨?_, by omega⟩, by omega⟩⟩
    · rw [h] at hr
      have := hy.a
      rw [hr] at this
      simp only [Prod.mk.injEq, and_true, partB, partL]
      rw [show (its (bytesL s)).all signIt = signR s 0 from rfl, ← this]
      rfl
    · rw [h] at hr
      rw [← hy.a, hr, Bool.true_and]
  · have hr := signR_end (s := s) (p := p) (by omega)
    have ha : (its (bytesL s)).all signIt = true := by
      rw [show (its (bytesL s)).all signIt = signR s 0 from rfl, ← hy.a, hr]
    simp only [nil_iff]
    have t0 : Int.toNat 0 = 0 := rfl
    rw [t0]
    by_cases hz : s.size = 0
    · refine ⟨fun h => absurd hz h, fun h => absurd hz h, fun h => absurd hz h.1, fun h => absurd hz h.1, ?_⟩
      have hb : bytesL s = [] := by rw [size_bytesL] at hz; exact List.length_eq_zero_iff.1 hz
      simp [hz, partB, partL, hb, notEnd]
    · have hb := byteAt_end (s := s) (by omega)
      rw [w64 (by omega) (by omega)]
      have e : ((s.size : Int) - 1).toNat = s.size - 1 := by omega
      rw [e, hb.1, hb.2]
      refine ⟨fun _ => by omega, fun _ => by omega, fun _ => by omega, fun _ => by omega, ?_⟩
      simp only [Prod.mk.injEq, and_true, partB, partL]
      have hne : bytesL s ≠ [] := by intro e; rw [size_bytesL, e] at hz; exact hz rfl
      rw [ha, notEnd_iff (by rw [List.isSome_head?]; simpa using hne), notEnd_iff (by rw [List.getLast?_isSome]; exact hne)]
      simp [hz]
theorem splitC_le {d : UInt8} (l : List UInt8) : (∀ p ∈ splitC d l, p.length ≤ l.length) ∧ (splitC d l).length ≤ l.length + 1 := by
  induction l with
  | nil => simp [splitC]
  | cons b r ih =>
    by_cases hb : b = d
    · subst hb
      rw [splitC_dot]
      refine ⟨fun p hp => ?_, by simp only [List.length_cons]; omega⟩
      rcases List.mem_cons.1 hp with rfl | hp
      · simp
      · have := ih.1 p hp; simp only [List.length_cons]; omega
    · cases hs : splitC d r with
      | nil => exact absurd hs (splitC_ne r)
      | cons p ps =>
        rw [splitC_cons hb hs]
        rw [hs] at ih
        refine ⟨fun q hq => ?_, by have := ih.2; simp only [List.length_cons] at *; omega⟩
        rcases List.mem_cons.1 hq with rfl | hq
        · have := ih.1 p List.mem_cons_self; simp only [List.length_cons]; omega
        · have := ih.1 q (List.mem_cons_of_mem _ hq); simp only [List.length_cons]; omega
theorem ofL_size (l : List UInt8) : (ofL l).size = l.length := by rw [size_bytesL, bytesL_ofL]
theorem splitS_le (s d : ByteArray) : (∀ p ∈ splitS s d, p.size ≤ s.size) ∧ (splitS s d).length ≤ s.size + 1 := by
  unfold splitS
  have h := splitC_le (d := (bytesL d).getD 0 0) (bytesL s)
  rw [size_bytesL]
  refine ⟨fun p hp => ?_, by rw [List.length_map]; exact h.2⟩
  obtain ⟨q, hq, rfl⟩ := List.mem_map.1 hp
  rw [ofL_size]
  exact h.1 q hq
theorem partB_ofL (l : List UInt8) : partB (ofL l) = partL l := by unfold partB; rw [bytesL_ofL]
theorem split_all (s : ByteArray) : (splitS s { data := #[46] }).all partB = (splitL (bytesL s)).all partL := by
  show ((splitC 46 (bytesL s)).map ofL).all partB = _
  rw [List.all_map]
  congr 1
theorem validB_small {s : ByteArray} (h : s.size ≤ 64) : validB s = (splitS s { data := #[46] }).all partB := by
  rw [split_all]
  unfold validB validL
  rw [← size_bytesL]
  simp [h]
theorem validB_great {s : ByteArray} (h : ¬ s.size ≤ 64) : validB s = false := by
  unfold validB validL
  rw [← size_bytesL]
  simp [h]

/-! all of a list -/
theorem getD_mem {l : List ByteArray} {i : Int} {z : ByteArray} (h0 : 0 ≤ i) (h : i < l.length) : l.getD i.toNat z ∈ l := by
  have h' : i.toNat < l.length := by omega
  rw [List.getD_eq_getElem?_getD, List.getElem?_eq_getElem h']
  exact List.getElem_mem h'
theorem AllI.zero (p : ByteArray → Bool) (l : List ByteArray) : AllI p l 0 := ⟨by omega, by omega, rfl⟩
theorem AllI.no {p : ByteArray → Bool} {l : List ByteArray} {i : Int} {z : ByteArray} (h : AllI p l i) (hi : i < l.length) (hp : p (l.getD i.toNat z) = false) : l.all p = false := by
  rw [← h.a, drop_cons l i z h.i0 hi, List.all_cons, hp]
  rfl
theorem AllI.on {p : ByteArray → Bool} {l : List ByteArray} {i : Int} {z : ByteArray} (h : AllI p l i) (hl : l.length ≤ 5000000000) (hi : i < l.length) (hp : p (l.getD i.toNat z) = true) : AllI p l (IntKind.wrap .i64 (i + 1)) ∧ l.length - (IntKind.wrap .i64 (i + 1)).toNat < l.length - i.toNat := by
  have h0 := h.i0
  rw [w64 (by omega) (by omega)]
  refine ⟨⟨by omega, by omega, ?_⟩, by omega⟩
  rw [← h.a, drop_cons l i z h.i0 hi, List.all_cons, hp]
  rfl
theorem AllI.fin {p : ByteArray → Bool} {l : List ByteArray} {i : Int} (h : AllI p l i) (hi : ¬ i < l.length) : l.all p = true := by
  rw [← h.a, List.drop_eq_nil_iff.2 (by have := h.i1; omega)]
  rfl
theorem listOk_iff (l : List ByteArray) : listOk l = true ↔ l.length ≤ 100000 := by simp [listOk]
theorem v143 : Vc g143 300 Tryz.f143 cValid := by
  constructor
  rw [v143_eq]
  simp only [Wr_iff, bcase_iff, true_and, and_true, decide_eq_true_eq, decide_eq_false_iff_not, Bool.and_eq_true, Bool.and_eq_false_iff, Bool.or_eq_true, Bool.or_eq_false_iff, Bool.not_eq_true', Bool.not_eq_false', Option.map_some, Option.getD_some, Option.isSome_some, Option.isSome_map, imp_self, nilL, noneO]
  intro x
  generalize x.fst = l
  intro hl
  rw [listOk_iff] at hl
  refine ⟨AllI.zero _ _, fun i hi => ⟨fun h => ?_, fun h => ?_⟩⟩
  · have hm := getD_mem (z := Ty.str.zero) hi.i0 h
    generalize hs : l.getD i.toNat Ty.str.zero = s
    refine ⟨hi.i0, h, fun h64 => ?_, fun h64 => ⟨⟨(szOk_iff s).2 (by omega), rfl⟩, ⟨AllI.zero _ _, h64⟩, fun j hj => ⟨fun h2 => ?_, fun h2 => ?_⟩⟩⟩
    · have := hi.no (z := Ty.str.zero) h (by rw [hs]; exact validB_great (by omega))
      rw [allValid, this]
      simp only [Prod.mk.injEq, and_true, decide_eq_false_iff_not]
      exact h64
    · have hle := splitS_le s { data := #[46] }
      have hm2 := getD_mem (z := Ty.str.zero) hj.i0 h2
      have h42 := hle.1 _ hm2
      refine ⟨hj.i0, h2, (szOk_iff _).2 (by omega), fun hp => ?_, fun hp => ?_⟩
      · have h3 := hj.no (z := Ty.str.zero) h2 hp
        rw [← validB_small (by omega)] at h3
        rw [hp, allValid, hi.no (z := Ty.str.zero) h (by rw [hs]; exact h3)]
      · have := hj.on (z := Ty.str.zero) (by omega) h2 hp
        exact ⟨this.1, this.2, hp⟩
    · have h3 := hj.fin h2
      rw [← validB_small (by omega)] at h3
      exact hi.on (z := Ty.str.zero) (by omega) h (by rw [hs]; exact h3)
  · rw [allValid, hi.fin h]
theorem fold2_iff (s : ByteArray) : fold2 s = 0 ↔ validB s = true := by
  unfold fold2
  cases validB s <;> simp
theorem fold2_no {s : ByteArray} (h : ¬ fold2 s = 0) : validB s = false ∧ fold2 s = 10 := by
  unfold fold2 at *
  cases hv : validB s <;> simp_all
theorem enc_len (n : Int) : (Go.Lib.encodeRune n).length ≤ 4 := by
  have h1 := Go.Lib.runeCells_le n
  rw [Go.Lib.runeCells_length] at h1
  exact h1.2
theorem foldL_len (l : List UInt8) : (foldL l).length ≤ 4 * l.length := by
  have h : ∀ I : List It, (I.flatMap foldIt).length ≤ 4 * I.length := by
    intro I
    induction I with
    | nil => simp
    | cons p I ih =>
      rw [List.flatMap_cons, List.length_append, List.length_cons]
      have := enc_len ((foldC (p.1.getD 65533) : Nat) : Int)
      unfold foldIt at *
      omega
  have := h (its l)
  have := its_len l
  unfold foldL
  omega
theorem valid_size {s : ByteArray} (h : validB s = true) : s.size ≤ 64 := by
  rcases Nat.lt_or_ge 64 s.size with h' | h'
  · rw [validB_great (by omega)] at h; cases h
  · exact h'
theorem fold1_size (s : ByteArray) : (fold1 s).size ≤ 256 := by
  unfold fold1
  cases h : validB s with
  | false => simp [ofL_size]
  | true =>
    simp only [cond_true, ofL_size]
    have := foldL_len (bytesL s)
    have := valid_size h
    rw [size_bytesL] at this
    omega
theorem foldL_rest {s : ByteArray} {p : Nat} (h : p < s.size) : foldL (restL s p) = foldIt (hd1 (restL s p)) ++ foldL (restL s (nextP s p)) := by
  unfold foldL
  rw [its_rest h, List.flatMap_cons]
end Go.Proofs.YtfhlceooobabcaaGreatDoor.Wd
set_option linter.all false
namespace Go.Proofs.YtfhlceooobabcaaGreatDoor.Wd
open Go Go.Eng Go.Lb Go.Ad
set_option maxRecDepth 100000
set_option maxHeartbeats 2000000
theorem may1_iff (a : Ad) : may1 a = true ↔ (1 ≤ a.2.2.1 ∧ a.2.2.1 ≤ 65535) ∧ (a.1 = 6 ∨ a.1 = 4 ∧ ∀ x ∈ (gl a.2.1).drop 2, x = 0) := by
  unfold may1
  simp [isZ, List.all_eq_true]
theorem getD_memA {α : Type} {l : List α} {i : Int} {z : α} (h0 : 0 ≤ i) (h : i < l.length) : l.getD i.toNat z ∈ l := by
  have h' : i.toNat < l.length := by omega
  rw [List.getD_eq_getElem?_getD, List.getElem?_eq_getElem h']
  exact List.getElem_mem h'
theorem take_all {α : Type} {l : List α} {i : Int} (h1 : i ≤ l.length) (h : ¬ i < l.length) : l.take i.toNat = l := List.take_of_length_le (by omega)
theorem step {i : Int} {n : Nat} (h0 : 0 ≤ i) (hn : n ≤ 5000000000) (h : i < n) : IntKind.wrap .i64 (i + 1) = i + 1 := w64 (by omega) (by omega)
theorem bL0 (l : List UInt8) : ({ data := { toList := l } } : ByteArray) = ofL l := rfl
theorem wcut {n : Nat} {i : Int} (h0 : 0 ≤ i) (h : i < n) : n - (i + 1).toNat < n - i.toNat := by omega
theorem eqA (a b : Ad) : Ty.eqb AdT a b = true ↔ a = b := by
  constructor
  · exact eqb_eq AdT rfl a b
  · rintro rfl
    simp [Ty.eqb, Ty.arr]
theorem eqA_f (a b : Ad) : Ty.eqb AdT a b = false ↔ ¬ a = b := by
  rw [← eqA, Bool.not_eq_true]
theorem lenA_iff (l : List Ad) : lenA l = true ↔ l.length ≤ 100000 := by simp [lenA]
def bare (a : Ad) : Ad := (a.1, (a.2.1.1, a.2.1.2.1, 0, 0, 0, 0, 0, 0, ()), a.2.2)
theorem bare_iff (a : Ad) : a = bare a ↔ ∀ x ∈ (gl a.2.1).drop 2, x = 0 := by
  obtain ⟨f, ⟨a0, a1, a2, a3, a4, a5, a6, a7, ⟨⟩⟩, p, ⟨⟩⟩ := a
  simp [bare, gl]
theorem may_no (a : Ad) (h : (a.2.2.1 < 1 ∨ a.2.2.1 > 65535) ∨ ¬ a.1 = 6 ∧ (¬ a.1 = 4 ∨ Ty.eqb AdT a (bare a) = false)) : may1 a = false := by
  rw [eqA_f, bare_iff] at h
  cases hm : may1 a with
  | false => rfl
  | true =>
    rw [may1_iff] at hm
    exfalso
    rcases hm with ⟨⟨h1, h2⟩, h3 | ⟨h3, h4⟩⟩
    · omega
    · rcases h with h | ⟨h5, h6 | h6⟩
      · omega
      · exact h6 h3
      · exact h6 h4
theorem may_yes (a : Ad) (h : (¬ a.2.2.1 < 1 ∧ ¬ a.2.2.1 > 65535) ∧ (a.1 = 6 ∨ a.1 = 4 ∧ Ty.eqb AdT a (bare a) = true)) : may1 a = true := by
  rw [eqA, bare_iff] at h
  rw [may1_iff]
  exact ⟨⟨by omega, by omega⟩, h.2⟩
theorem v45 : Vc g45 300 Tryz.f45 cMay := by
  constructor
  rw [v45_eq]
  simp only [Wr_iff, bcase_iff, true_and, and_true, decide_eq_true_eq, decide_eq_false_iff_not, Bool.and_eq_true, Bool.and_eq_false_iff, Bool.or_eq_true, Bool.or_eq_false_iff, Bool.not_eq_true', Bool.not_eq_false', Option.map_some, Option.getD_some, Option.isSome_some, Option.isSome_map, imp_self, nilL, noneO]
  intro x
  generalize x.fst = l
  intro hl
  have hl := (lenA_iff l).1 hl
  refine ⟨⟨by omega, by omega, rfl⟩, fun i hi => ⟨fun h => ?_, fun h => ?_⟩⟩
  · refine ⟨hi.i0, h, fun hn => ?_, fun hy => ?_⟩
    · have hn := may_no _ hn
      have : mayA l = false := by
        cases hm : mayA l with
        | false => rfl
        | true =>
          have := List.all_eq_true.1 hm _ (getD_memA (z := Ty.zero AdT) hi.i0 h)
          exact absurd (this.symm.trans hn) (by decide)
      rw [this]
    · have hy := may_yes _ hy
      have h0 := hi.i0
      rw [step h0 (by omega) h]
      refine ⟨⟨by omega, by omega, ?_⟩, wcut h0 h⟩
      have e := take_succ l i (Ty.zero AdT) h0 h
      rw [e, List.all_append, hi.a, List.all_cons, List.all_nil, Bool.and_true, Bool.true_and]
      exact hy
  · have := hi.a
    rw [take_all hi.i1 h] at this
    exact congrArg (fun b => (b, ())) this.symm
end Go.Proofs.YtfhlceooobabcaaGreatDoor.Wd
set_option linter.all false
namespace Go.Proofs.YtfhlceooobabcaaGreatDoor.Wd
open Go Go.Eng Go.Lb Go.Ad Go.RowKit
set_option maxRecDepth 100000
set_option maxHeartbeats 2000000

/-- what the variables hold that the library reads -/
structure GW (w : World) : Prop where
  max : ∃ m, w.cell? ⟨0, 0, none⟩ = some (.int .i64 m)
theorem gws : ∀ w w', Below w.heap.size w w' → GW w → GW w' := by
  intro w w' hb h
  obtain ⟨⟨m, h1⟩⟩ := h
  have h0 : 0 < w.heap.size := World.block_lt_of_cell? w ⟨0, 0, none⟩ h1
  refine ⟨⟨m, ?_⟩⟩
  rw [World.cell?_of_block (w := w) (w' := w') (hb.block 0 h0)]
  exact h1


theorem indexByte_none {d : UInt8} : ∀ {l : List UInt8}, d ∉ l → Go.Lib.indexByte l d = -1
  | [], _ => rfl
  | b :: l, h => by
    simp only [List.mem_cons, not_or] at h
    rw [Go.Lib.indexByte, indexByte_none h.2, if_neg (by simpa using Ne.symm h.1)]
    rfl
theorem indexByte_app {d : UInt8} {r : List UInt8} : ∀ {a : List UInt8}, d ∉ a → Go.Lib.indexByte (a ++ d :: r) d = a.length
  | [], _ => by simp [Go.Lib.indexByte]
  | b :: a, h => by
    simp only [List.mem_cons, not_or] at h
    rw [List.cons_append, Go.Lib.indexByte, indexByte_app h.2, if_neg (by simpa using Ne.symm h.1), if_neg (by simp <;> omega)]
    simp
theorem split_eq (d : ByteArray) (hd : d.size = 1) : ∀ (l : List UInt8) (s : ByteArray), bytesL s = l → Go.Lib.splitB d 0 (Go.Lib.countB s d) s = splitS s d := by
  have hidx : ∀ s : ByteArray, Go.Lib.indexB s d = Go.Lib.indexByte (bytesL s) ((bytesL d).getD 0 0) := by
    intro s
    rw [Go.Lib.one s d hd]
    show Go.Lib.indexByte (bytesL s) _ = _
    congr 1
    have : (bytesL d).getD 0 0 = d[0] := by
      unfold bytesL
      rw [List.getD_eq_getElem?_getD, Array.getElem?_toList, Array.getElem?_eq_getElem (show 0 < d.data.size from by show 0 < d.size; omega)]
      rfl
    rw [this]
    simp
  intro l
  generalize hc : (bytesL d).getD 0 0 = c at hidx
  induction l using splitC_ind (d := c) with
  | h0 l h =>
    intro s hs
    have hi : Go.Lib.indexB s d = -1 := by rw [hidx, hs]; exact indexByte_none h
    rw [Go.Lib.countB_miss s d hi, Go.Lib.splitB_zero]
    unfold splitS
    rw [hc, hs, splitC_none h, ← hs]
    simp [ofL_bytesL]
  | h1 a r h ih =>
    intro s hs
    have hi : Go.Lib.indexB s d = (a.length : Nat) := by rw [hidx, hs]; exact indexByte_app h
    have hsz := size_bytesL s
    rw [hs] at hsz
    have hr : bytesL (s.extract (a.length + d.size) s.size) = r := by
      have := bytesL_sub s (a.length + d.size) s.size
      unfold subS at this
      rw [this, hs, hd, hsz, List.take_length, List.drop_append]
      simp
    rw [Go.Lib.countB_hit s d a.length (by omega) hi, Nat.add_comm 1, Go.Lib.splitB_hit d 0 _ s a.length hi, ih _ hr]
    unfold splitS
    rw [hc, hs, splitC_app r h, hr, List.map_cons]
    congr 1
    apply bytesL_inj
    have := bytesL_sub s 0 (a.length + 0)
    unfold subS at this
    rw [this, hs, bytesL_ofL]
    simp
theorem valSplitS : Valid Tryz.prog GW 167 cSplitS := by
  refine ⟨⟨Tryz.f167, Tryz.func167, by kernel_rfl, rfl⟩, fun w hG S x cs hS hx hpre => ?_⟩
  obtain ⟨s, d, ⟨⟩⟩ := x
  obtain ⟨c1, c2, rfl, ⟨rfl, hs1⟩, h2⟩ := hx
  obtain ⟨c3, c4, rfl, ⟨rfl, hp1⟩, h4⟩ := h2
  obtain rfl : c4 = [] := h4
  have hp : (szOk s && decide (d.size = 1)) = true := hpre
  simp only [Bool.and_eq_true, decide_eq_true_eq, szOk_iff] at hp
  obtain ⟨m, hm⟩ := hG.max
  refine Calls.mono (Tryz.strings_Split s d m w (by omega) hm (by omega)) ?_
  have hall := Go.Lib.splitB_all d (by omega) 0 _ s rfl
  have heq := split_eq d hp.2 _ s rfl
  rw [heq] at hall ⊢
  have hle := splitS_le s d
  rintro e w' ⟨rfl, rfl⟩
  rw [← hall]
  generalize hxs : splitS s d = xs at hle ⊢
  have hF : cSplitS.F (s, d, ()) = (xs, ()) := by rw [← hxs]; rfl
  rw [hF]
  refine ⟨Below.alloc (Below.refl _ _) (Nat.le_refl _) _, [.slice (some ⟨w.heap.size, 0, none⟩) xs.length xs.length], rfl, ⟨_, [], rfl, ⟨_, _, rfl, Nat.le_refl _, by simp only; unfold maxLen; omega, fun _ => ⟨w.heap.size, 0, rfl, .inr ⟨Nat.le_refl _, by simp⟩, fun i x hi => ?_⟩⟩, rfl⟩, fun h => by cases h⟩
  refine ⟨[.string x], ⟨rfl, ?_⟩, fun j v hj => ?_⟩
  · have := hle.1 x (List.mem_of_getElem? hi)
    unfold maxLen at *; omega
  · match j, hj with
    | 0, hj =>
      simp only [List.getElem?_cons_zero, Option.some.injEq] at hj
      subst hj
      have hh : (w.alloc (.cells (xs.map Value.string).toArray 9)).heap[w.heap.size]? = some (.cells (xs.map Value.string).toArray 9) := heap_alloc_new w _
      have hi' : xs[i]? = some x := hi
      simp only [World.cell?, Nat.zero_add, Nat.add_zero, Ty.size, Nat.mul_one, hh]
      simp [hi']
    | j + 1, hj => simp at hj

end Go.Proofs.YtfhlceooobabcaaGreatDoor.Wd
set_option linter.all false
namespace Go.Proofs
open Go Go.Eng Go.Lb Go.Ad Go.RowKit YtfhlceooobabcaaGreatDoor.Wd
set_option maxRecDepth 1000000
set_option maxHeartbeats 4000000

theorem fold_valid (hVal : Valid Tryz.prog GW 143 cValid) (s : ByteArray) (w : World) (hG : GW w) (hs : s.size ≤ maxLen) :
    Calls Tryz.prog 143 #[.slice (some ⟨w.heap.size, 0, none⟩) 1 1] (w.alloc (.cells #[.string s] 9)) fun e w' => e = .returned (.bool (validB s)) ∧ Below (w.heap.size + 1) (w.alloc (.cells #[.string s] 9)) w' := by
  have hb : Below w.heap.size w (w.alloc (.cells #[.string s] 9)) := Below.alloc (Below.refl _ _) (Nat.le_refl _) _
  have hsz : (w.alloc (.cells #[.string s] 9)).heap.size = w.heap.size + 1 := by simp
  have h := hVal.2 _ (gws _ _ hb hG) (fun b => b = w.heap.size) ([s], ()) [.slice (some ⟨w.heap.size, 0, none⟩) 1 1] (fun b hb => by rw [hsz]; omega)
    ⟨[.slice (some ⟨w.heap.size, 0, none⟩) 1 1], [], rfl, ⟨_, _, rfl, Nat.le_refl _, by unfold maxLen; omega, fun _ => ⟨w.heap.size, 0, rfl, rfl, fun i x hi => by
      match i, hi with
      | 0, hi =>
        have hi : s = x := by simpa using hi
        subst hi
        refine ⟨[.string s], ⟨rfl, hs⟩, fun j v hj => ?_⟩
        match j, hj with
        | 0, hj =>
          simp only [List.getElem?_cons_zero, Option.some.injEq] at hj
          subst hj
          have hh : (w.alloc (.cells #[.string s] 9)).heap[w.heap.size]? = some (.cells #[.string s] 9) := heap_alloc_new w _
          have hx : (w.alloc (.cells #[.string s] 9)).cell? ⟨w.heap.size, 0, none⟩ = some (.string s) := by
            unfold World.cell?
            simp only [hh]
            rfl
          simpa using hx
        | j + 1, hj => simp at hj
      | i + 1, hi => simp at hi⟩⟩, rfl⟩ (by
        show listOk [s] = true
        rw [listOk_iff]; simp)
  refine h.mono ?_
  rintro e w' ⟨h1, rs, he, h2, _⟩
  obtain ⟨c1, c2, rfl, h3, h4⟩ := h2
  obtain rfl : c1 = [.bool (allValid [s])] := h3
  obtain rfl : c2 = [] := h4
  have e1 : allValid [s] = validB s := by simp [allValid]
  rw [e1] at he
  rw [hsz] at h1
  exact ⟨he, h1⟩
theorem fold_c (n : Nat) (r : Int) (hr : r = (if (65 ≤ n ∧ n ≤ 90) ∨ (192 ≤ n ∧ n ≤ 222) then (n : Int) + 32 else (n : Int))) : r = ((foldC n : Nat) : Int) := by
  unfold foldC
  rw [hr]
  split <;> simp
theorem fold_no (hVal : Valid Tryz.prog GW 143 cValid) (s : ByteArray) (w : World) (hG : GW w) (hs : s.size ≤ maxLen) (hv : validB s = false) :
    Calls Tryz.prog 115 #[.string s] w fun e w' => e = .returned (.tuple #[.string ⟨#[]⟩, .int .i64 10]) ∧ Below w.heap.size w w' := by
  have hc := fold_valid hVal s w hG hs
  rw [hv] at hc
  go_enter Tryz.func115, Tryz.ntmps115
  go_wp2_with (go_at_call 143; refine hc.mono ?_; rintro e W ⟨rfl, hbW⟩)
  go_wp2
  go_ret2
  exact ⟨rfl, (Below.alloc (Below.refl _ _) (Nat.le_refl _) _).trans (hbW.mono (by omega))⟩
theorem fold_yes (hVal : Valid Tryz.prog GW 143 cValid) (s : ByteArray) (w : World) (hG : GW w) (hs : s.size ≤ maxLen) (hv : validB s = true) :
    Calls Tryz.prog 115 #[.string s] w fun e w' => e = .returned (.tuple #[.string (ofL (foldL (bytesL s))), .int .i64 0]) ∧ Below w.heap.size w w' := by
  have hc := fold_valid hVal s w hG hs
  rw [hv] at hc
  have h64 := valid_size hv
  go_enter Tryz.func115, Tryz.ntmps115
  go_wp2_with (go_at_call 143; refine hc.mono ?_; rintro e W ⟨rfl, hbW⟩)
  go_wp2
  have hb0 : Below w.heap.size w W := (Below.alloc (Below.refl _ _) (Nat.le_refl _) _).trans (hbW.mono (by omega))
  go_loopw [] (fun wr => ∃ (pos : Nat) (acc : List UInt8), Go.Lib.IsBuilderF 181 5 W.heap.size W.heap.size (Go.Lib.byteCells acc) wr ∧ wr.heap[W.heap.size + 1]? = some (.stringIter s pos) ∧ Below W.heap.size W wr ∧ acc ++ foldL (restL s pos) = foldL (bytesL s) ∧ pos ≤ s.size ∧ acc.length ≤ 4 * pos) (fun wr => s.size - wr.iterPos (W.heap.size + 1))
  case atStart =>
    refine ⟨0, [], (Go.Lib.IsBuilderF.of (Go.Lib.fresh_isBuilder 181 5 W)).alloc _, ?_, ((Below.refl _ W).alloc (Nat.le_refl _) _).alloc (by simp) _, rfl, by omega, by simp⟩
    have := World.iter_heap (W.alloc (.cells #[.pointer none, .slice none 0 0] 181)) s 0
    simpa using this
  case round =>
    obtain ⟨pos, acc, hI, hit, hbw, hacc, hps, hal⟩ := hrel
    have hsz : W.heap.size + 1 < wr.heap.size := (Array.getElem?_eq_some_iff.1 hit).1
    by_cases hp : pos < s.size
    · have hnx : ∀ ty, (Instr.next (.pointer (some ⟨W.heap.size + 1, 0, none⟩)) true ty).run Tryz.prog wr = _ := fun ty => Go.Lib.run_next_any_at wr (W.heap.size + 1) s pos ty hit hp
      have hdl := decode_le s pos
      have hnp := nextP_le hp
      unfold nextP at hnp
      have hI2 := hI.iterAt hit (pos + (Utf8.decode s pos).2)
      have hit2 := Go.Lib.iterAt_heap wr (W.heap.size + 1) s pos (pos + (Utf8.decode s pos).2) hit
      have hbw2 := Go.Lib.below_iterAt hbw (k := W.heap.size + 1) (by omega) s (pos + (Utf8.decode s pos).2)
      have hsz2 : W.heap.size ≤ (wr.iterAt (W.heap.size + 1) s (pos + (Utf8.decode s pos).2)).heap.size := by rw [Go.Lib.iterAt_size]; omega
      have hfr := foldL_rest hp
      have hra := runeAt_eq hp
      unfold runeAt at hra
      have hfi : foldIt (hd1 (restL s pos)) = Go.Lib.encodeRune ((foldC (Utf8.decode s pos).1 : Nat) : Int) := by
        unfold foldIt
        congr 2
        congr 1
        omega
      have hnp' : nextP s pos = pos + (Utf8.decode s pos).2 := rfl
      have on : ∀ (W1 : World) (r : Int), r = ((foldC (Utf8.decode s pos).1 : Nat) : Int) → Go.Lib.BuilderAtF 181 5 W.heap.size W.heap.size (.pointer (some ⟨W.heap.size, 0, none⟩)) (Go.Lib.byteCells acc ++ Go.Lib.runeCells r) W1 →
          Below W.heap.size (wr.iterAt (W.heap.size + 1) s (pos + (Utf8.decode s pos).2)) W1 → Go.Lib.OthersKept 5 (some W.heap.size) (wr.iterAt (W.heap.size + 1) s (pos + (Utf8.decode s pos).2)) W1 →
          (∃ (pos : Nat) (acc : List UInt8), Go.Lib.IsBuilderF 181 5 W.heap.size W.heap.size (Go.Lib.byteCells acc) W1 ∧ W1.heap[W.heap.size + 1]? = some (.stringIter s pos) ∧ Below W.heap.size W W1 ∧ acc ++ foldL (restL s pos) = foldL (bytesL s) ∧ pos ≤ s.size ∧ acc.length ≤ 4 * pos) ∧
            s.size - W1.iterPos (W.heap.size + 1) < s.size - wr.iterPos (W.heap.size + 1) := by
        intro W1 r hr h1 b1 k1
        have hl4 := enc_len r
        refine ⟨⟨pos + (Utf8.decode s pos).2, acc ++ Go.Lib.encodeRune r, ?_, k1.iter hit2 (by omega), hbw2.trans b1, ?_, by omega, by simp; omega⟩, ?_⟩
        · rw [Go.Lib.byteCells_append, Go.Lib.byteCells_encodeRune]; exact Or.inr h1
        · rw [← hacc, hfr, hfi, hr, List.append_assoc, hnp']
        · simp only [World.iterPos, k1.iter hit2 (by omega), hit]
          omega
      clear hra hfi hfr
      go_wp2_with (go_at_call 144; refine (Tryz.Builder_WriteRune_k W.heap.size W.heap.size _ _ (by omega) (by omega) _ hI2 (by rw [Go.Lib.byteCells_length]; omega) hsz2).mono ?_; rintro e W1 ⟨rfl, h1, b1, k1⟩)
      all_goals (go_wp2; go_roundw)
      all_goals first
        | exact (on W1 _ (fold_c _ _ (by split <;> omega)) h1 b1 k1).1
        | exact (on W1 _ (fold_c _ _ (by split <;> omega)) h1 b1 k1).2
    · have hnx : ∀ ty, (Instr.next (.pointer (some ⟨W.heap.size + 1, 0, none⟩)) true ty).run Tryz.prog wr = _ := fun ty => Go.Lib.run_next_end_at wr (W.heap.size + 1) s pos ty hit hp
      go_wp2_with (go_at_call 141; refine (Tryz.Builder_String_any_k W.heap.size W.heap.size acc _ hI (by omega)).mono ?_)
      rintro e W1 ⟨rfl, _, b1, _⟩
      go_wp2
      go_ret2
      rw [restL_end (by omega)] at hacc
      have hacc : acc = foldL (bytesL s) := by
        have e : foldL [] = [] := rfl
        rw [e, List.append_nil] at hacc; exact hacc
      subst hacc
      exact ⟨rfl, hb0.trans ((hbw.trans b1).mono (by have := hb0.size; omega))⟩
theorem valFold (hVal : Valid Tryz.prog GW 143 cValid) : Valid Tryz.prog GW 115 cFold := by
  refine ⟨⟨Tryz.f115, Tryz.func115, by kernel_rfl, rfl⟩, fun w hG S x cs hS hx hpre => ?_⟩
  obtain ⟨s, ⟨⟩⟩ := x
  obtain ⟨c1, c2, rfl, ⟨rfl, hs1⟩, h2⟩ := hx
  obtain rfl : c2 = [] := h2
  have hp : s.size ≤ maxLen := hs1
  have hF : cFold.F (s, ()) = (fold1 s, (fold2 s, ())) := rfl
  rw [hF]
  have hsz := fold1_size s
  have fin : ∀ (a : ByteArray) (b : Int), a = fold1 s → b = fold2 s → ∀ e w', (e = Ending.returned (.tuple #[.string a, .int .i64 b]) ∧ Below w.heap.size w w') → (Below w.heap.size w w' ∧ ∃ rs, e = .returned (retV cFold.r rs) ∧ RdC Tryz.prog cFold.r (fun b => S b ∨ w.heap.size ≤ b ∧ b < w'.heap.size) w' (fold1 s, (fold2 s, ())) rs ∧ (cFold.clip = true → ∃ base n, retV cFold.r rs = .slice base n n)) := by
    rintro a b rfl rfl e w' ⟨rfl, hb⟩
    refine ⟨hb, [.string (fold1 s), .int .i64 (fold2 s)], rfl, ⟨[.string (fold1 s)], [.int .i64 (fold2 s)], rfl, ⟨rfl, by simp only; unfold maxLen; omega⟩, [.int .i64 (fold2 s)], [], rfl, ⟨rfl, ?_⟩, rfl⟩, fun h => by cases h⟩
    simp only [fold2]
    cases validB s <;> decide
  cases hv : validB s with
  | false => exact (fold_no hVal s w hG hp hv).mono (fin _ _ (by rw [fold1, hv]; rfl) (by rw [fold2, hv]; rfl))
  | true => exact (fold_yes hVal s w hG hp hv).mono (fin _ _ (by rw [fold1, hv]; rfl) (by rw [fold2, hv]; rfl))
end Go.Proofs
namespace Go.Proofs.YtfhlceooobabcaaGreatDoor.Wd
open Go Go.Eng Go.Lb Go.Ad
set_option maxRecDepth 100000
theorem val193 : Valid Tryz.prog GW 193 cLetter := mkValid gws Tb.mix Tb.tab_ok Tb.eqs_ok g193 rfl allV_nil allI_nil Tryz.func193 (by kernel_rfl) v193
theorem val183 : Valid Tryz.prog GW 183 cSign := mkValid gws Tb.mix Tb.tab_ok Tb.eqs_ok g183 rfl (allV_cons val193 allV_nil) allI_nil Tryz.func183 (by kernel_rfl) v183
theorem val168 : Valid Tryz.prog GW 168 cPart := mkValid gws Tb.mix Tb.tab_ok Tb.eqs_ok g168 rfl (allV_cons val183 allV_nil) allI_nil Tryz.func168 (by kernel_rfl) v168
theorem val143 : Valid Tryz.prog GW 143 cValid := mkValid gws Tb.mix Tb.tab_ok Tb.eqs_ok g143 rfl (allV_cons valSplitS (allV_cons val168 allV_nil)) allI_nil Tryz.func143 (by kernel_rfl) v143
theorem val45 : Valid Tryz.prog GW 45 cMay := mkValid gws Tb.mix Tb.tab_ok Tb.eqs_ok g45 rfl allV_nil allI_nil Tryz.func45 (by kernel_rfl) v45
end Go.Proofs.YtfhlceooobabcaaGreatDoor.Wd
set_option maxRecDepth 100000
namespace Go.Proofs.YtfhlceooobabcaaGreatDoor.Wd
open Go Go.Eng Go.Lb Go.Ad
abbrev ZoneT : Ty := .cons .str (.cons (.sl AdL) .unit)
abbrev FatT : Ty := .cons AdT (.cons (.sl I8) .unit)
abbrev PlanT : Ty := .cons (.sl ZoneT) (.cons (.sl FatT) (.cons I64 (.cons (.sl I64) .unit)))
abbrev Zn := ByteArray × List (List Ad) × Unit
abbrev Ft := Ad × List Int × Unit
abbrev Pl := List Zn × List Ft × Int × List Int × Unit
/-! what may be -/
def rowOk (l : List Ad) : Bool := decide (l.length ≤ 16) && (mayA l && decide l.Nodup)
def zoneOk (z : Zn) : Bool := (validB z.1 && decide (fold1 z.1 = z.1)) && (decide (1 ≤ z.2.1.length) && (decide (z.2.1.length ≤ 32) && z.2.1.all rowOk))
def fateIn (x : Int) : Bool := decide (0 ≤ x) && decide (x ≤ 2)
def fateOk (f : Ft) : Bool := may1 f.1 && (decide (1 ≤ f.2.1.length) && (decide (f.2.1.length ≤ 32) && f.2.1.all fateIn))
def dropOk (n : Int) : Bool := decide (0 ≤ n)
def nameOf (z : Zn) : ByteArray := z.1
def adOf (f : Ft) : Ad := f.1
def unlN (l : List Zn) : Bool := decide (l.map nameOf).Nodup
def unlF (l : List Ft) : Bool := decide (l.map adOf).Nodup
def checkB (p : Pl) : Bool := (decide (p.1.length ≤ 8) && p.1.all zoneOk) && (unlN p.1 && ((decide (p.2.1.length ≤ 32) && p.2.1.all fateOk) && (unlF p.2.1 && (decide (0 ≤ p.2.2.1) && (decide (p.2.2.1 ≤ 200) && (decide (p.2.2.2.1.length ≤ 16) && p.2.2.2.1.all dropOk))))))
def check (p : Pl) : Int := bif checkB p then 0 else 90
/-! where the first one stands -/
def idxZ {α : Type} (p : α → Bool) (l : List α) : Int := bif l.any p then (l.findIdx p : Nat) else -1
def adIs (a : Ad) (f : Ft) : Bool := decide (f.1 = a)
def fateRow (p : Pl) (a : Ad) : List Int := match p.2.1.find? (adIs a) with
  | some f => f.2.1
  | none => []
def fateAt (l : List Int) (n : Int) : Int := bif decide (l.length = 0) then 1 else l.getD (min (max n 0) ((l.length : Int) - 1)).toNat 0
def fateF (p : Pl) (a : Ad) (n : Int) : Int := fateAt (fateRow p a) n
/-! contracts -/
def cRowOk : Contract := conD (.cons AdL .unit) (.cons .bool .unit) (fun _ => true) fun x => (rowOk x.1, ())
def cZone : Contract := conD (.cons ZoneT .unit) (.cons .bool .unit) (fun _ => true) fun x => (zoneOk x.1, ())
def cFat : Contract := conD (.cons FatT .unit) (.cons .bool .unit) (fun _ => true) fun x => (fateOk x.1, ())
def cDropOk : Contract := conD (.cons I64 .unit) (.cons .bool .unit) (fun _ => true) fun x => (dropOk x.1, ())
def cCheck : Contract := conD (.cons PlanT .unit) (.cons I64 .unit) (fun _ => true) fun x => (check x.1, ())
def okF (f : Ft) : Bool := decide (f.2.1.length ≤ 1000000)
def okP (p : Pl) : Bool := decide (p.2.1.length ≤ 1000000) && p.2.1.all okF
def cFate : Contract := conD (.cons PlanT (.cons AdT (.cons I64 .unit))) (.cons I8 .unit) (fun x => okP x.1) fun x => (fateF x.1 x.2.1 x.2.2.1, ())
/-! loops -/
structure IdxI {α : Type} (p : α → Bool) (l : List α) (i : Int) : Prop where
  i0 : 0 ≤ i
  i1 : i ≤ l.length
  a : (l.take i.toNat).any p = false
def idxL (nx : Nat) (t : Ty) (p : St → t.El → Bool) : LoopAnn where
  α := Int
  keep := [0, 1, 6, 7]
  okeep := []
  nxt := nx
  env := fun _ x => [(8, .dat I64 x)]
  own := fun _ _ => []
  inv := fun s x => IdxI (p s) (bDat (.sl t) s 0).out x
  mu := fun s x => List.length (α := t.El) (bDat (.sl t) s 0).out - x.toNat
  pick := some fun _ s => (bDat I64 s 8).out
structure UnlI {α κ : Type} [DecidableEq κ] (k : α → κ) (l : List α) (i : Int) (n : Nat) (f : κ → Option Int) : Prop where
  i0 : 0 ≤ i
  i1 : i ≤ l.length
  n : n = i.toNat
  f : ∀ x, f x = bif decide (x ∈ (l.take i.toNat).map k) then some 1 else none
  d : ((l.take i.toNat).map k).Nodup
def unlA (mo nx : Nat) : LoopAnn where
  α := Int × Nat × (Ad → Option Int)
  keep := [0, 1, 10, 11]
  okeep := []
  nxt := nx
  env := fun _ x => [(12, .dat I64 x.1), (5, .own mo)]
  own := fun _ x => [(mo, .map 166 AdT I64 x.2.1 x.2.2)]
  inv := fun s x => UnlI (fun a : Ad => a) (bDat AdL s 0).out x.1 x.2.1 x.2.2
  mu := fun s x => List.length (α := Ad) (bDat AdL s 0).out - x.1.toNat
  pick := some fun _ s => ((bDat I64 s 12).out, (bMap AdT I64 s 5).out)
def unlZ (mo nx : Nat) : LoopAnn where
  α := Int × Nat × (ByteArray → Option Int)
  keep := [0, 1, 10, 11]
  okeep := []
  nxt := nx
  env := fun _ x => [(12, .dat I64 x.1), (5, .own mo)]
  own := fun _ x => [(mo, .map 150 .str I64 x.2.1 x.2.2)]
  inv := fun s x => UnlI nameOf (bDat (.sl ZoneT) s 0).out x.1 x.2.1 x.2.2
  mu := fun s x => List.length (α := Zn) (bDat (.sl ZoneT) s 0).out - x.1.toNat
  pick := some fun _ s => ((bDat I64 s 12).out, (bMap .str I64 s 5).out)
def unlFt (mo nx : Nat) : LoopAnn where
  α := Int × Nat × (Ad → Option Int)
  keep := [0, 1, 10, 11]
  okeep := []
  nxt := nx
  env := fun _ x => [(12, .dat I64 x.1), (5, .own mo)]
  own := fun _ x => [(mo, .map 166 AdT I64 x.2.1 x.2.2)]
  inv := fun s x => UnlI adOf (bDat (.sl FatT) s 0).out x.1 x.2.1 x.2.2
  mu := fun s x => List.length (α := Ft) (bDat (.sl FatT) s 0).out - x.1.toNat
  pick := some fun _ s => ((bDat I64 s 12).out, (bMap AdT I64 s 5).out)
/-- what a function's first captured variable holds -/
def capDat (t : Ty) (s : St) (k : Nat) : Box t.El := match Go.Eng.look s.env k with
  | .fn _ (.pt o off :: _) => match lookO s.own o with
    | .cells _ ds => match gather s.own t (ds.drop off) with
      | some (y, _) => ⟨y⟩
      | none => ⟨t.zero⟩
    | _ => ⟨t.zero⟩
  | _ => ⟨t.zero⟩
def notB {α : Type} (p : α → Bool) (a : α) : Bool := !p a
end Go.Proofs.YtfhlceooobabcaaGreatDoor.Wd
namespace Go.Proofs.YtfhlceooobabcaaGreatDoor.Wd
open Go Go.Eng Go.Lb Go.Ad
set_option maxRecDepth 100000
noncomputable def g117 : Cfg := { tab := Tb.tab, cons := [(45, cMay)], inls := [(118, Tryz.f118), (119, Tryz.f119)], loops := [(1190003, unlA 2000 3000)], cuts := [], unroll := false, arrs := [], keys := [47] }
noncomputable def g79 : Cfg := { tab := Tb.tab, cons := [(45, cMay), (115, cFold), (117, cRowOk)], inls := [(68, Tryz.f68), (80, Tryz.f80), (107, Tryz.f107), (116, Tryz.f116), (120, Tryz.f120), (121, Tryz.f121), (145, Tryz.f145), (146, Tryz.f146), (147, Tryz.f147), (170, Tryz.f170)], loops := [(1710002, idxL 3000 AdL fun _ => notB rowOk)], cuts := [], unroll := false, arrs := [], keys := [] }
noncomputable def g81 : Cfg := { tab := Tb.tab, cons := [(45, cMay), (115, cFold)], inls := [(68, Tryz.f68), (80, Tryz.f80), (107, Tryz.f107), (116, Tryz.f116), (120, Tryz.f120), (121, Tryz.f121), (145, Tryz.f145), (146, Tryz.f146), (147, Tryz.f147), (170, Tryz.f170)], loops := [(1080002, idxL 3000 I8 fun _ => notB fateIn)], cuts := [], unroll := false, arrs := [], keys := [] }
noncomputable def g82 : Cfg := { tab := Tb.tab, cons := [(45, cMay), (115, cFold)], inls := [(68, Tryz.f68), (80, Tryz.f80), (107, Tryz.f107), (116, Tryz.f116), (120, Tryz.f120), (121, Tryz.f121), (145, Tryz.f145), (146, Tryz.f146), (147, Tryz.f147), (170, Tryz.f170)], loops := [], cuts := [], unroll := false, arrs := [], keys := [] }
noncomputable def g36 : Cfg := { tab := Tb.tab, cons := [(79, cZone), (81, cFat), (82, cDropOk)], inls := [(60, Tryz.f60), (83, Tryz.f83), (84, Tryz.f84), (85, Tryz.f85), (86, Tryz.f86), (87, Tryz.f87), (88, Tryz.f88), (89, Tryz.f89), (104, Tryz.f104), (122, Tryz.f122), (123, Tryz.f123), (124, Tryz.f124), (125, Tryz.f125), (126, Tryz.f126), (127, Tryz.f127), (148, Tryz.f148)], loops := [(610002, idxL 3000 ZoneT fun _ => notB zoneOk), (850003, unlZ 3900 4000), (1050002, idxL 5000 FatT fun _ => notB fateOk), (880003, unlFt 5900 6000), (1490002, idxL 7000 I64 fun _ => notB dropOk)], cuts := [], unroll := false, arrs := [], keys := [47] }
noncomputable def g27 : Cfg := { tab := Tb.tab, cons := [], inls := [(64, Tryz.f64), (65, Tryz.f65), (104, Tryz.f104), (105, Tryz.f105)], loops := [(1050002, idxL 3000 FatT fun s => adIs (capDat AdT s 1).out)], cuts := [], unroll := false, arrs := [], keys := [] }
end Go.Proofs.YtfhlceooobabcaaGreatDoor.Wd
namespace Go.Proofs.YtfhlceooobabcaaGreatDoor.Wd
open Go Go.Eng Go.Lb Go.Ad
set_option maxRecDepth 100000
theorem v117_eq : vcFn g117 300 Tryz.f117 cRowOk = ( ∀ (x : List (Int × (Int × Int × Int × Int × Int × Int × Int × Int × Unit) × Int × Unit) × Unit), Wr (Bool.true = Bool.true) → Wr (Decidable.decide ((↑(List.length x.fst) : Int) ≤ (16 : Int)) = Bool.true → lenA x.fst =
  Bool.true) ∧ bcase (Decidable.decide ((↑(List.length x.fst) : Int) ≤ (16 : Int)) && Go.Ad.mayA x.fst) ((Wr (UnlI (fun (a : Int × (Int × Int × Int × Int × Int × Int × Int × Int × Unit) × Int × Unit) => a) x.fst (0 : Int)
  (0 : Nat) fun (x : Int × (Int × Int × Int × Int × Int × Int × Int × Int × Unit) × Int × Unit) => noneO Int) ∧ Wr ((0 : Int) = (0 : Int)) ∧ Wr (x.fst = x.fst) ∧ Wr (x.fst = x.fst) ∧ Wr ((↑(List.length x.fst) : Int) =
  (↑(List.length x.fst) : Int)) ∧ Wr ((0 : Nat) ≤ (0 : Nat)) ∧ Wr ((fun (x : Int × (Int × Int × Int × Int × Int × Int × Int × Int × Unit) × Int × Unit) => noneO Int) = fun (x : Int × (Int × Int × Int × Int × Int × Int ×
  Int × Int × Unit) × Int × Unit) => noneO Int)) ∧ ∀ (x_1 : Int × Nat × (Int × (Int × Int × Int × Int × Int × Int × Int × Int × Unit) × Int × Unit → Option Int)), Wr (UnlI (fun (a : Int × (Int × Int × Int × Int × Int ×
  Int × Int × Int × Unit) × Int × Unit) => a) x.fst x_1.fst x_1.snd.fst x_1.snd.snd) → bcase (Decidable.decide (x_1.fst < (↑(List.length x.fst) : Int))) (Wr ((0 : Int) ≤ x_1.fst) ∧ Wr (x_1.fst < (↑(List.length x.fst) :
  Int)) ∧ Wr (Bool.true = Bool.true) ∧ Wr (x_1.snd.fst < Go.maxLen) ∧ bcase (Decidable.decide (Option.getD (updF AdT I64 x_1.snd.snd (List.getD x.fst (Int.toNat x_1.fst) (Ty.zero AdT)) (IntKind.wrap IntKind.i64
  (Option.getD (x_1.snd.snd (List.getD x.fst (Int.toNat x_1.fst) (Ty.zero AdT))) (0 : Int) + (1 : Int))) (List.getD x.fst (Int.toNat x_1.fst) (Ty.zero AdT))) (0 : Int) > (1 : Int))) ((Bool.true && Bool.false, ()) = (rowOk
  x.fst, ())) (Wr (UnlI (fun (a : Int × (Int × Int × Int × Int × Int × Int × Int × Int × Unit) × Int × Unit) => a) x.fst (IntKind.wrap IntKind.i64 (x_1.fst + (1 : Int))) (x_1.snd.fst + (1 : Nat)) (updF AdT I64 x_1.snd.snd
  (List.getD x.fst (Int.toNat x_1.fst) (Ty.zero AdT)) (IntKind.wrap IntKind.i64 (Option.getD (x_1.snd.snd (List.getD x.fst (Int.toNat x_1.fst) (Ty.zero AdT))) (0 : Int) + (1 : Int))))) ∧ Wr (List.length x.fst - Int.toNat
  (IntKind.wrap IntKind.i64 (x_1.fst + (1 : Int))) < List.length x.fst - Int.toNat x_1.fst) ∧ Wr (IntKind.wrap IntKind.i64 (x_1.fst + (1 : Int)) = IntKind.wrap IntKind.i64 (x_1.fst + (1 : Int))) ∧ Wr (x.fst = x.fst) ∧ Wr
  (x.fst = x.fst) ∧ Wr ((↑(List.length x.fst) : Int) = (↑(List.length x.fst) : Int)) ∧ Wr (x_1.snd.fst + (1 : Nat) ≤ x_1.snd.fst + (1 : Nat)) ∧ Wr (updF AdT I64 x_1.snd.snd (List.getD x.fst (Int.toNat x_1.fst) (Ty.zero
  AdT)) (IntKind.wrap IntKind.i64 (Option.getD (x_1.snd.snd (List.getD x.fst (Int.toNat x_1.fst) (Ty.zero AdT))) (0 : Int) + (1 : Int))) = updF AdT I64 x_1.snd.snd (List.getD x.fst (Int.toNat x_1.fst) (Ty.zero AdT))
  (IntKind.wrap IntKind.i64 (Option.getD (x_1.snd.snd (List.getD x.fst (Int.toNat x_1.fst) (Ty.zero AdT))) (0 : Int) + (1 : Int)))))) ((Bool.true && Bool.true, ()) = (rowOk x.fst, ()))) ((!Bool.true && Bool.false, ()) =
  (rowOk x.fst, ()))) := by kernel_rfl
theorem v79_eq : vcFn g79 300 Tryz.f79 cZone = ( ∀ (x : (ByteArray × List (List (Int × (Int × Int × Int × Int × Int × Int × Int × Int × Unit) × Int × Unit)) × Unit) × Unit), Wr (Bool.true = Bool.true) → Wr (Bool.true = Bool.true) ∧ bcase (Decidable.decide (Go.Lb.fold2
  x.fst.fst = (0 : Int)) && Decidable.decide (Go.Lb.fold1 x.fst.fst = x.fst.fst)) (bcase (Decidable.decide ((↑(List.length x.fst.snd.fst) : Int) ≥ (1 : Int)) && Decidable.decide ((↑(List.length x.fst.snd.fst) : Int) ≤ (32
  : Int))) ((Wr (IdxI (notB rowOk) x.fst.snd.fst (0 : Int)) ∧ Wr ((0 : Int) = (0 : Int)) ∧ Wr (x.fst.snd.fst = x.fst.snd.fst) ∧ Wr (x.fst.snd.fst = x.fst.snd.fst) ∧ Wr ((↑(List.length x.fst.snd.fst) : Int) =
  (↑(List.length x.fst.snd.fst) : Int)) ∧ Wr (x.fst.fst = x.fst.fst) ∧ Wr (x.fst.snd.fst = x.fst.snd.fst) ∧ Wr (x.fst.fst = x.fst.fst) ∧ Wr (x.fst.snd.fst = x.fst.snd.fst) ∧ Wr (x.fst.fst = x.fst.fst) ∧ Wr (x.fst.snd.fst
  = x.fst.snd.fst)) ∧ ∀ (x_1 : Int), Wr (IdxI (notB rowOk) x.fst.snd.fst x_1) → bcase (Decidable.decide (x_1 < (↑(List.length x.fst.snd.fst) : Int))) (Wr ((0 : Int) ≤ x_1) ∧ Wr (x_1 < (↑(List.length x.fst.snd.fst) : Int))
  ∧ Wr (Bool.true = Bool.true) ∧ Wr (Bool.true = Bool.true) ∧ bcase (!rowOk (List.getD x.fst.snd.fst (Int.toNat x_1) (Ty.zero (Ty.sl (Ty.cons (Ty.int IntKind.i8) (Ty.cons (Ty.arr (8 : Nat) (Ty.int IntKind.u16)) (Ty.cons
  (Ty.int IntKind.i64) Ty.unit))))))) ((Bool.true && (Bool.true && !Decidable.decide (x_1 ≥ (0 : Int))), ()) = (zoneOk x.fst, ())) (Wr (IdxI (notB rowOk) x.fst.snd.fst (IntKind.wrap IntKind.i64 (x_1 + (1 : Int)))) ∧ Wr
  (List.length x.fst.snd.fst - Int.toNat (IntKind.wrap IntKind.i64 (x_1 + (1 : Int))) < List.length x.fst.snd.fst - Int.toNat x_1) ∧ Wr (IntKind.wrap IntKind.i64 (x_1 + (1 : Int)) = IntKind.wrap IntKind.i64 (x_1 + (1 :
  Int))) ∧ Wr (x.fst.snd.fst = x.fst.snd.fst) ∧ Wr (x.fst.snd.fst = x.fst.snd.fst) ∧ Wr ((↑(List.length x.fst.snd.fst) : Int) = (↑(List.length x.fst.snd.fst) : Int)) ∧ Wr (x.fst.fst = x.fst.fst) ∧ Wr (x.fst.snd.fst =
  x.fst.snd.fst) ∧ Wr (x.fst.fst = x.fst.fst) ∧ Wr (x.fst.snd.fst = x.fst.snd.fst) ∧ Wr (x.fst.fst = x.fst.fst) ∧ Wr (x.fst.snd.fst = x.fst.snd.fst))) ((Bool.true && (Bool.true && !Decidable.decide ((-1 : Int) ≥ (0 :
  Int))), ()) = (zoneOk x.fst, ()))) ((Bool.true && (!Bool.true && Bool.false), ()) = (zoneOk x.fst, ()))) ((!Bool.true && Bool.false, ()) = (zoneOk x.fst, ()))) := by kernel_rfl
theorem v81_eq : vcFn g81 300 Tryz.f81 cFat = ( ∀ (x : ((Int × (Int × Int × Int × Int × Int × Int × Int × Int × Unit) × Int × Unit) × List Int × Unit) × Unit), Wr (Bool.true = Bool.true) → Wr (lenA (x.fst.fst :: nilL (Int × (Int × Int × Int × Int × Int × Int × Int ×
  Int × Unit) × Int × Unit)) = Bool.true) ∧ bcase (Go.Ad.mayA (x.fst.fst :: nilL (Int × (Int × Int × Int × Int × Int × Int × Int × Int × Unit) × Int × Unit))) (bcase (Decidable.decide ((↑(List.length x.fst.snd.fst) : Int)
  ≥ (1 : Int)) && Decidable.decide ((↑(List.length x.fst.snd.fst) : Int) ≤ (32 : Int))) ((Wr (IdxI (notB fateIn) x.fst.snd.fst (0 : Int)) ∧ Wr ((0 : Int) = (0 : Int)) ∧ Wr (x.fst.snd.fst = x.fst.snd.fst) ∧ Wr
  (x.fst.snd.fst = x.fst.snd.fst) ∧ Wr ((↑(List.length x.fst.snd.fst) : Int) = (↑(List.length x.fst.snd.fst) : Int)) ∧ Wr (x.fst.fst :: nilL (Int × (Int × Int × Int × Int × Int × Int × Int × Int × Unit) × Int × Unit) =
  x.fst.fst :: nilL (Int × (Int × Int × Int × Int × Int × Int × Int × Int × Unit) × Int × Unit)) ∧ Wr (x.fst.fst.fst = x.fst.fst.fst) ∧ Wr (x.fst.fst.snd.fst.fst = x.fst.fst.snd.fst.fst) ∧ Wr (x.fst.fst.snd.fst.snd.fst =
  x.fst.fst.snd.fst.snd.fst) ∧ Wr (x.fst.fst.snd.fst.snd.snd.fst = x.fst.fst.snd.fst.snd.snd.fst) ∧ Wr (x.fst.fst.snd.fst.snd.snd.snd.fst = x.fst.fst.snd.fst.snd.snd.snd.fst) ∧ Wr (x.fst.fst.snd.fst.snd.snd.snd.snd.fst =
  x.fst.fst.snd.fst.snd.snd.snd.snd.fst) ∧ Wr (x.fst.fst.snd.fst.snd.snd.snd.snd.snd.fst = x.fst.fst.snd.fst.snd.snd.snd.snd.snd.fst) ∧ Wr (x.fst.fst.snd.fst.snd.snd.snd.snd.snd.snd.fst =
  x.fst.fst.snd.fst.snd.snd.snd.snd.snd.snd.fst) ∧ Wr (x.fst.fst.snd.fst.snd.snd.snd.snd.snd.snd.snd.fst = x.fst.fst.snd.fst.snd.snd.snd.snd.snd.snd.snd.fst) ∧ Wr (x.fst.fst.snd.snd.fst = x.fst.fst.snd.snd.fst) ∧ Wr
  (x.fst.snd.fst = x.fst.snd.fst) ∧ Wr (x.fst.fst.fst = x.fst.fst.fst) ∧ Wr (x.fst.fst.snd.fst.fst = x.fst.fst.snd.fst.fst) ∧ Wr (x.fst.fst.snd.fst.snd.fst = x.fst.fst.snd.fst.snd.fst) ∧ Wr (x.fst.fst.snd.fst.snd.snd.fst
  = x.fst.fst.snd.fst.snd.snd.fst) ∧ Wr (x.fst.fst.snd.fst.snd.snd.snd.fst = x.fst.fst.snd.fst.snd.snd.snd.fst) ∧ Wr (x.fst.fst.snd.fst.snd.snd.snd.snd.fst = x.fst.fst.snd.fst.snd.snd.snd.snd.fst) ∧ Wr
  (x.fst.fst.snd.fst.snd.snd.snd.snd.snd.fst = x.fst.fst.snd.fst.snd.snd.snd.snd.snd.fst) ∧ Wr (x.fst.fst.snd.fst.snd.snd.snd.snd.snd.snd.fst = x.fst.fst.snd.fst.snd.snd.snd.snd.snd.snd.fst) ∧ Wr
  (x.fst.fst.snd.fst.snd.snd.snd.snd.snd.snd.snd.fst = x.fst.fst.snd.fst.snd.snd.snd.snd.snd.snd.snd.fst) ∧ Wr (x.fst.fst.snd.snd.fst = x.fst.fst.snd.snd.fst) ∧ Wr (x.fst.snd.fst = x.fst.snd.fst) ∧ Wr (x.fst.fst.fst =
  x.fst.fst.fst) ∧ Wr (x.fst.fst.snd.fst.fst = x.fst.fst.snd.fst.fst) ∧ Wr (x.fst.fst.snd.fst.snd.fst = x.fst.fst.snd.fst.snd.fst) ∧ Wr (x.fst.fst.snd.fst.snd.snd.fst = x.fst.fst.snd.fst.snd.snd.fst) ∧ Wr
  (x.fst.fst.snd.fst.snd.snd.snd.fst = x.fst.fst.snd.fst.snd.snd.snd.fst) ∧ Wr (x.fst.fst.snd.fst.snd.snd.snd.snd.fst = x.fst.fst.snd.fst.snd.snd.snd.snd.fst) ∧ Wr (x.fst.fst.snd.fst.snd.snd.snd.snd.snd.fst =
  x.fst.fst.snd.fst.snd.snd.snd.snd.snd.fst) ∧ Wr (x.fst.fst.snd.fst.snd.snd.snd.snd.snd.snd.fst = x.fst.fst.snd.fst.snd.snd.snd.snd.snd.snd.fst) ∧ Wr (x.fst.fst.snd.fst.snd.snd.snd.snd.snd.snd.snd.fst =
  x.fst.fst.snd.fst.snd.snd.snd.snd.snd.snd.snd.fst) ∧ Wr (x.fst.fst.snd.snd.fst = x.fst.fst.snd.snd.fst) ∧ Wr (x.fst.snd.fst = x.fst.snd.fst)) ∧ ∀ (x_1 : Int), Wr (IdxI (notB fateIn) x.fst.snd.fst x_1) → bcase
  (Decidable.decide (x_1 < (↑(List.length x.fst.snd.fst) : Int))) (Wr ((0 : Int) ≤ x_1) ∧ Wr (x_1 < (↑(List.length x.fst.snd.fst) : Int)) ∧ Wr (Bool.true = Bool.true) ∧ bcase (!(Decidable.decide (List.getD x.fst.snd.fst
  (Int.toNat x_1) (0 : Int) ≥ (0 : Int)) && Decidable.decide (List.getD x.fst.snd.fst (Int.toNat x_1) (0 : Int) ≤ (2 : Int)))) ((Bool.true && (Bool.true && !Decidable.decide (x_1 ≥ (0 : Int))), ()) = (fateOk x.fst, ()))
  (Wr (IdxI (notB fateIn) x.fst.snd.fst (IntKind.wrap IntKind.i64 (x_1 + (1 : Int)))) ∧ Wr (List.length x.fst.snd.fst - Int.toNat (IntKind.wrap IntKind.i64 (x_1 + (1 : Int))) < List.length x.fst.snd.fst - Int.toNat x_1) ∧
  Wr (IntKind.wrap IntKind.i64 (x_1 + (1 : Int)) = IntKind.wrap IntKind.i64 (x_1 + (1 : Int))) ∧ Wr (x.fst.snd.fst = x.fst.snd.fst) ∧ Wr (x.fst.snd.fst = x.fst.snd.fst) ∧ Wr ((↑(List.length x.fst.snd.fst) : Int) =
  (↑(List.length x.fst.snd.fst) : Int)) ∧ Wr (x.fst.fst :: nilL (Int × (Int × Int × Int × Int × Int × Int × Int × Int × Unit) × Int × Unit) = x.fst.fst :: nilL (Int × (Int × Int × Int × Int × Int × Int × Int × Int × Unit)
  × Int × Unit)) ∧ Wr (x.fst.fst.fst = x.fst.fst.fst) ∧ Wr (x.fst.fst.snd.fst.fst = x.fst.fst.snd.fst.fst) ∧ Wr (x.fst.fst.snd.fst.snd.fst = x.fst.fst.snd.fst.snd.fst) ∧ Wr (x.fst.fst.snd.fst.snd.snd.fst =
  x.fst.fst.snd.fst.snd.snd.fst) ∧ Wr (x.fst.fst.snd.fst.snd.snd.snd.fst = x.fst.fst.snd.fst.snd.snd.snd.fst) ∧ Wr (x.fst.fst.snd.fst.snd.snd.snd.snd.fst = x.fst.fst.snd.fst.snd.snd.snd.snd.fst) ∧ Wr
  (x.fst.fst.snd.fst.snd.snd.snd.snd.snd.fst = x.fst.fst.snd.fst.snd.snd.snd.snd.snd.fst) ∧ Wr (x.fst.fst.snd.fst.snd.snd.snd.snd.snd.snd.fst = x.fst.fst.snd.fst.snd.snd.snd.snd.snd.snd.fst) ∧ Wr
  (x.fst.fst.snd.fst.snd.snd.snd.snd.snd.snd.snd.fst = x.fst.fst.snd.fst.snd.snd.snd.snd.snd.snd.snd.fst) ∧ Wr (x.fst.fst.snd.snd.fst = x.fst.fst.snd.snd.fst) ∧ Wr (x.fst.snd.fst = x.fst.snd.fst) ∧ Wr (x.fst.fst.fst =
  x.fst.fst.fst) ∧ Wr (x.fst.fst.snd.fst.fst = x.fst.fst.snd.fst.fst) ∧ Wr (x.fst.fst.snd.fst.snd.fst = x.fst.fst.snd.fst.snd.fst) ∧ Wr (x.fst.fst.snd.fst.snd.snd.fst = x.fst.fst.snd.fst.snd.snd.fst) ∧ Wr
  (x.fst.fst.snd.fst.snd.snd.snd.fst = x.fst.fst.snd.fst.snd.snd.snd.fst) ∧ Wr (x.fst.fst.snd.fst.snd.snd.snd.snd.fst = x.fst.fst.snd.fst.snd.snd.snd.snd.fst) ∧ Wr (x.fst.fst.snd.fst.snd.snd.snd.snd.snd.fst =
  x.fst.fst.snd.fst.snd.snd.snd.snd.snd.fst) ∧ Wr (x.fst.fst.snd.fst.snd.snd.snd.snd.snd.snd.fst = x.fst.fst.snd.fst.snd.snd.snd.snd.snd.snd.fst) ∧ Wr (x.fst.fst.snd.fst.snd.snd.snd.snd.snd.snd.snd.fst =
  x.fst.fst.snd.fst.snd.snd.snd.snd.snd.snd.snd.fst) ∧ Wr (x.fst.fst.snd.snd.fst = x.fst.fst.snd.snd.fst) ∧ Wr (x.fst.snd.fst = x.fst.snd.fst) ∧ Wr (x.fst.fst.fst = x.fst.fst.fst) ∧ Wr (x.fst.fst.snd.fst.fst =
  x.fst.fst.snd.fst.fst) ∧ Wr (x.fst.fst.snd.fst.snd.fst = x.fst.fst.snd.fst.snd.fst) ∧ Wr (x.fst.fst.snd.fst.snd.snd.fst = x.fst.fst.snd.fst.snd.snd.fst) ∧ Wr (x.fst.fst.snd.fst.snd.snd.snd.fst =
  x.fst.fst.snd.fst.snd.snd.snd.fst) ∧ Wr (x.fst.fst.snd.fst.snd.snd.snd.snd.fst = x.fst.fst.snd.fst.snd.snd.snd.snd.fst) ∧ Wr (x.fst.fst.snd.fst.snd.snd.snd.snd.snd.fst = x.fst.fst.snd.fst.snd.snd.snd.snd.snd.fst) ∧ Wr
  (x.fst.fst.snd.fst.snd.snd.snd.snd.snd.snd.fst = x.fst.fst.snd.fst.snd.snd.snd.snd.snd.snd.fst) ∧ Wr (x.fst.fst.snd.fst.snd.snd.snd.snd.snd.snd.snd.fst = x.fst.fst.snd.fst.snd.snd.snd.snd.snd.snd.snd.fst) ∧ Wr
  (x.fst.fst.snd.snd.fst = x.fst.fst.snd.snd.fst) ∧ Wr (x.fst.snd.fst = x.fst.snd.fst))) ((Bool.true && (Bool.true && !Decidable.decide ((-1 : Int) ≥ (0 : Int))), ()) = (fateOk x.fst, ()))) ((Bool.true && (!Bool.true &&
  Bool.false), ()) = (fateOk x.fst, ()))) ((!Bool.true && Bool.false, ()) = (fateOk x.fst, ()))) := by kernel_rfl
theorem v82_eq : vcFn g82 300 Tryz.f82 cDropOk = ( ∀ (x : Int × Unit), Wr (Bool.true = Bool.true) → (Decidable.decide (x.fst ≥ (0 : Int)), ()) = (dropOk x.fst, ())) := by kernel_rfl
theorem v36_eq : vcFn g36 300 Tryz.f36 cCheck = ( ∀ (x : (List (ByteArray × List (List (Int × (Int × Int × Int × Int × Int × Int × Int × Int × Unit) × Int × Unit)) × Unit) × List ((Int × (Int × Int × Int × Int × Int × Int × Int × Int × Unit) × Int × Unit) × List Int ×
  Unit) × Int × List Int × Unit) × Unit), Wr (Bool.true = Bool.true) → bcase (Decidable.decide ((↑(List.length x.fst.fst) : Int) ≥ (0 : Int)) && Decidable.decide ((↑(List.length x.fst.fst) : Int) ≤ (8 : Int))) ((Wr (IdxI
  (notB zoneOk) x.fst.fst (0 : Int)) ∧ Wr ((0 : Int) = (0 : Int)) ∧ Wr (x.fst.fst = x.fst.fst) ∧ Wr (x.fst.fst = x.fst.fst) ∧ Wr ((↑(List.length x.fst.fst) : Int) = (↑(List.length x.fst.fst) : Int)) ∧ Wr (x.fst.fst =
  x.fst.fst) ∧ Wr (x.fst.snd.fst = x.fst.snd.fst) ∧ Wr (x.fst.snd.snd.fst = x.fst.snd.snd.fst) ∧ Wr (x.fst.snd.snd.snd.fst = x.fst.snd.snd.snd.fst)) ∧ ∀ (x_1 : Int), Wr (IdxI (notB zoneOk) x.fst.fst x_1) → bcase
  (Decidable.decide (x_1 < (↑(List.length x.fst.fst) : Int))) (Wr ((0 : Int) ≤ x_1) ∧ Wr (x_1 < (↑(List.length x.fst.fst) : Int)) ∧ Wr (Bool.true = Bool.true) ∧ Wr (Bool.true = Bool.true) ∧ bcase (!zoneOk (List.getD
  x.fst.fst (Int.toNat x_1) (Ty.zero ZoneT))) (bcase (Bool.true && !Decidable.decide (x_1 ≥ (0 : Int))) ((Wr (UnlI nameOf x.fst.fst (0 : Int) (0 : Nat) fun (x : ByteArray) => noneO Int) ∧ Wr ((0 : Int) = (0 : Int)) ∧ Wr
  (x.fst.fst = x.fst.fst) ∧ Wr (x.fst.fst = x.fst.fst) ∧ Wr ((↑(List.length x.fst.fst) : Int) = (↑(List.length x.fst.fst) : Int)) ∧ Wr ((0 : Nat) ≤ (0 : Nat)) ∧ Wr ((fun (x : ByteArray) => noneO Int) = fun (x : ByteArray)
  => noneO Int) ∧ Wr ((List.getD x.fst.fst (Int.toNat x_1) (Ty.zero ZoneT)).fst = (List.getD x.fst.fst (Int.toNat x_1) (Ty.zero ZoneT)).fst) ∧ Wr ((List.getD x.fst.fst (Int.toNat x_1) (Ty.zero ZoneT)).snd.fst = (List.getD
  x.fst.fst (Int.toNat x_1) (Ty.zero ZoneT)).snd.fst) ∧ Wr (x.fst.fst = x.fst.fst) ∧ Wr (x.fst.snd.fst = x.fst.snd.fst) ∧ Wr (x.fst.snd.snd.fst = x.fst.snd.snd.fst) ∧ Wr (x.fst.snd.snd.snd.fst = x.fst.snd.snd.snd.fst)) ∧
  ∀ (x_2 : Int × Nat × (ByteArray → Option Int)), Wr (UnlI nameOf x.fst.fst x_2.fst x_2.snd.fst x_2.snd.snd) → bcase (Decidable.decide (x_2.fst < (↑(List.length x.fst.fst) : Int))) (Wr ((0 : Int) ≤ x_2.fst) ∧ Wr (x_2.fst
  < (↑(List.length x.fst.fst) : Int)) ∧ Wr (Bool.true = Bool.true) ∧ Wr (x_2.snd.fst < Go.maxLen) ∧ bcase (Decidable.decide (Option.getD (updF Ty.str I64 x_2.snd.snd (List.getD x.fst.fst (Int.toNat x_2.fst) (Ty.zero
  ZoneT)).fst (IntKind.wrap IntKind.i64 (Option.getD (x_2.snd.snd (List.getD x.fst.fst (Int.toNat x_2.fst) (Ty.zero ZoneT)).fst) (0 : Int) + (1 : Int))) (List.getD x.fst.fst (Int.toNat x_2.fst) (Ty.zero ZoneT)).fst) (0 :
  Int) > (1 : Int))) (((90 : Int), ()) = (check x.fst, ())) (Wr (UnlI nameOf x.fst.fst (IntKind.wrap IntKind.i64 (x_2.fst + (1 : Int))) (x_2.snd.fst + (1 : Nat)) (updF Ty.str I64 x_2.snd.snd (List.getD x.fst.fst
  (Int.toNat x_2.fst) (Ty.zero ZoneT)).fst (IntKind.wrap IntKind.i64 (Option.getD (x_2.snd.snd (List.getD x.fst.fst (Int.toNat x_2.fst) (Ty.zero ZoneT)).fst) (0 : Int) + (1 : Int))))) ∧ Wr (List.length x.fst.fst -
  Int.toNat (IntKind.wrap IntKind.i64 (x_2.fst + (1 : Int))) < List.length x.fst.fst - Int.toNat x_2.fst) ∧ Wr (IntKind.wrap IntKind.i64 (x_2.fst + (1 : Int)) = IntKind.wrap IntKind.i64 (x_2.fst + (1 : Int))) ∧ Wr
  (x.fst.fst = x.fst.fst) ∧ Wr (x.fst.fst = x.fst.fst) ∧ Wr ((↑(List.length x.fst.fst) : Int) = (↑(List.length x.fst.fst) : Int)) ∧ Wr (x_2.snd.fst + (1 : Nat) ≤ x_2.snd.fst + (1 : Nat)) ∧ Wr (updF Ty.str I64 x_2.snd.snd
  (List.getD x.fst.fst (Int.toNat x_2.fst) (Ty.zero ZoneT)).fst (IntKind.wrap IntKind.i64 (Option.getD (x_2.snd.snd (List.getD x.fst.fst (Int.toNat x_2.fst) (Ty.zero ZoneT)).fst) (0 : Int) + (1 : Int))) = updF Ty.str I64
  x_2.snd.snd (List.getD x.fst.fst (Int.toNat x_2.fst) (Ty.zero ZoneT)).fst (IntKind.wrap IntKind.i64 (Option.getD (x_2.snd.snd (List.getD x.fst.fst (Int.toNat x_2.fst) (Ty.zero ZoneT)).fst) (0 : Int) + (1 : Int)))) ∧ Wr
  ((List.getD x.fst.fst (Int.toNat x_1) (Ty.zero ZoneT)).fst = (List.getD x.fst.fst (Int.toNat x_1) (Ty.zero ZoneT)).fst) ∧ Wr ((List.getD x.fst.fst (Int.toNat x_1) (Ty.zero ZoneT)).snd.fst = (List.getD x.fst.fst
  (Int.toNat x_1) (Ty.zero ZoneT)).snd.fst) ∧ Wr (x.fst.fst = x.fst.fst) ∧ Wr (x.fst.snd.fst = x.fst.snd.fst) ∧ Wr (x.fst.snd.snd.fst = x.fst.snd.snd.fst) ∧ Wr (x.fst.snd.snd.snd.fst = x.fst.snd.snd.snd.fst))) (bcase
  (Decidable.decide ((↑(List.length x.fst.snd.fst) : Int) ≥ (0 : Int)) && Decidable.decide ((↑(List.length x.fst.snd.fst) : Int) ≤ (32 : Int))) ((Wr (IdxI (notB fateOk) x.fst.snd.fst (0 : Int)) ∧ Wr ((0 : Int) = (0 :
  Int)) ∧ Wr (x.fst.snd.fst = x.fst.snd.fst) ∧ Wr (x.fst.snd.fst = x.fst.snd.fst) ∧ Wr ((↑(List.length x.fst.snd.fst) : Int) = (↑(List.length x.fst.snd.fst) : Int)) ∧ Wr (x_2.snd.fst ≤ x_2.snd.fst) ∧ Wr (x_2.snd.snd =
  x_2.snd.snd) ∧ Wr ((List.getD x.fst.fst (Int.toNat x_1) (Ty.zero ZoneT)).fst = (List.getD x.fst.fst (Int.toNat x_1) (Ty.zero ZoneT)).fst) ∧ Wr ((List.getD x.fst.fst (Int.toNat x_1) (Ty.zero ZoneT)).snd.fst = (List.getD
  x.fst.fst (Int.toNat x_1) (Ty.zero ZoneT)).snd.fst) ∧ Wr (x.fst.fst = x.fst.fst) ∧ Wr (x.fst.snd.fst = x.fst.snd.fst) ∧ Wr (x.fst.snd.snd.fst = x.fst.snd.snd.fst) ∧ Wr (x.fst.snd.snd.snd.fst = x.fst.snd.snd.snd.fst)) ∧
  ∀ (x_3 : Int), Wr (IdxI (notB fateOk) x.fst.snd.fst x_3) → bcase (Decidable.decide (x_3 < (↑(List.length x.fst.snd.fst) : Int))) (Wr ((0 : Int) ≤ x_3) ∧ Wr (x_3 < (↑(List.length x.fst.snd.fst) : Int)) ∧ Wr (Bool.true =
  Bool.true) ∧ Wr (Bool.true = Bool.true) ∧ bcase (!fateOk (List.getD x.fst.snd.fst (Int.toNat x_3) (Ty.zero FatT))) (bcase (Bool.true && (Bool.true && !Decidable.decide (x_3 ≥ (0 : Int)))) ((Wr (UnlI adOf x.fst.snd.fst
  (0 : Int) (0 : Nat) fun (x : Int × (Int × Int × Int × Int × Int × Int × Int × Int × Unit) × Int × Unit) => noneO Int) ∧ Wr ((0 : Int) = (0 : Int)) ∧ Wr (x.fst.snd.fst = x.fst.snd.fst) ∧ Wr (x.fst.snd.fst =
  x.fst.snd.fst) ∧ Wr ((↑(List.length x.fst.snd.fst) : Int) = (↑(List.length x.fst.snd.fst) : Int)) ∧ Wr ((0 : Nat) ≤ (0 : Nat)) ∧ Wr ((fun (x : Int × (Int × Int × Int × Int × Int × Int × Int × Int × Unit) × Int × Unit)
  => noneO Int) = fun (x : Int × (Int × Int × Int × Int × Int × Int × Int × Int × Unit) × Int × Unit) => noneO Int) ∧ Wr ((List.getD x.fst.snd.fst (Int.toNat x_3) (Ty.zero FatT)).fst.fst = (List.getD x.fst.snd.fst
  (Int.toNat x_3) (Ty.zero FatT)).fst.fst) ∧ Wr ((List.getD x.fst.snd.fst (Int.toNat x_3) (Ty.zero FatT)).fst.snd.fst.fst = (List.getD x.fst.snd.fst (Int.toNat x_3) (Ty.zero FatT)).fst.snd.fst.fst) ∧ Wr ((List.getD
  x.fst.snd.fst (Int.toNat x_3) (Ty.zero FatT)).fst.snd.fst.snd.fst = (List.getD x.fst.snd.fst (Int.toNat x_3) (Ty.zero FatT)).fst.snd.fst.snd.fst) ∧ Wr ((List.getD x.fst.snd.fst (Int.toNat x_3) (Ty.zero
  FatT)).fst.snd.fst.snd.snd.fst = (List.getD x.fst.snd.fst (Int.toNat x_3) (Ty.zero FatT)).fst.snd.fst.snd.snd.fst) ∧ Wr ((List.getD x.fst.snd.fst (Int.toNat x_3) (Ty.zero FatT)).fst.snd.fst.snd.snd.snd.fst = (List.getD
  x.fst.snd.fst (Int.toNat x_3) (Ty.zero FatT)).fst.snd.fst.snd.snd.snd.fst) ∧ Wr ((List.getD x.fst.snd.fst (Int.toNat x_3) (Ty.zero FatT)).fst.snd.fst.snd.snd.snd.snd.fst = (List.getD x.fst.snd.fst (Int.toNat x_3)
  (Ty.zero FatT)).fst.snd.fst.snd.snd.snd.snd.fst) ∧ Wr ((List.getD x.fst.snd.fst (Int.toNat x_3) (Ty.zero FatT)).fst.snd.fst.snd.snd.snd.snd.snd.fst = (List.getD x.fst.snd.fst (Int.toNat x_3) (Ty.zero
  FatT)).fst.snd.fst.snd.snd.snd.snd.snd.fst) ∧ Wr ((List.getD x.fst.snd.fst (Int.toNat x_3) (Ty.zero FatT)).fst.snd.fst.snd.snd.snd.snd.snd.snd.fst = (List.getD x.fst.snd.fst (Int.toNat x_3) (Ty.zero
  FatT)).fst.snd.fst.snd.snd.snd.snd.snd.snd.fst) ∧ Wr ((List.getD x.fst.snd.fst (Int.toNat x_3) (Ty.zero FatT)).fst.snd.fst.snd.snd.snd.snd.snd.snd.snd.fst = (List.getD x.fst.snd.fst (Int.toNat x_3) (Ty.zero
  FatT)).fst.snd.fst.snd.snd.snd.snd.snd.snd.snd.fst) ∧ Wr ((List.getD x.fst.snd.fst (Int.toNat x_3) (Ty.zero FatT)).fst.snd.snd.fst = (List.getD x.fst.snd.fst (Int.toNat x_3) (Ty.zero FatT)).fst.snd.snd.fst) ∧ Wr
  ((List.getD x.fst.snd.fst (Int.toNat x_3) (Ty.zero FatT)).snd.fst = (List.getD x.fst.snd.fst (Int.toNat x_3) (Ty.zero FatT)).snd.fst) ∧ Wr (x_2.snd.fst ≤ x_2.snd.fst) ∧ Wr (x_2.snd.snd = x_2.snd.snd) ∧ Wr ((List.getD
  x.fst.fst (Int.toNat x_1) (Ty.zero ZoneT)).fst = (List.getD x.fst.fst (Int.toNat x_1) (Ty.zero ZoneT)).fst) ∧ Wr ((List.getD x.fst.fst (Int.toNat x_1) (Ty.zero ZoneT)).snd.fst = (List.getD x.fst.fst (Int.toNat x_1)
  (Ty.zero ZoneT)).snd.fst) ∧ Wr (x.fst.fst = x.fst.fst) ∧ Wr (x.fst.snd.fst = x.fst.snd.fst) ∧ Wr (x.fst.snd.snd.fst = x.fst.snd.snd.fst) ∧ Wr (x.fst.snd.snd.snd.fst = x.fst.snd.snd.snd.fst)) ∧ ∀ (x_4 : Int × Nat × (Int
  × (Int × Int × Int × Int × Int × Int × Int × Int × Unit) × Int × Unit → Option Int)), Wr (UnlI adOf x.fst.snd.fst x_4.fst x_4.snd.fst x_4.snd.snd) → bcase (Decidable.decide (x_4.fst < (↑(List.length x.fst.snd.fst) :
  Int))) (Wr ((0 : Int) ≤ x_4.fst) ∧ Wr (x_4.fst < (↑(List.length x.fst.snd.fst) : Int)) ∧ Wr (Bool.true = Bool.true) ∧ Wr (x_4.snd.fst < Go.maxLen) ∧ bcase (Decidable.decide (Option.getD (updF AdT I64 x_4.snd.snd
  (List.getD x.fst.snd.fst (Int.toNat x_4.fst) (Ty.zero FatT)).fst (IntKind.wrap IntKind.i64 (Option.getD (x_4.snd.snd (List.getD x.fst.snd.fst (Int.toNat x_4.fst) (Ty.zero FatT)).fst) (0 : Int) + (1 : Int))) (List.getD
  x.fst.snd.fst (Int.toNat x_4.fst) (Ty.zero FatT)).fst) (0 : Int) > (1 : Int))) (((90 : Int), ()) = (check x.fst, ())) (Wr (UnlI adOf x.fst.snd.fst (IntKind.wrap IntKind.i64 (x_4.fst + (1 : Int))) (x_4.snd.fst + (1 :
  Nat)) (updF AdT I64 x_4.snd.snd (List.getD x.fst.snd.fst (Int.toNat x_4.fst) (Ty.zero FatT)).fst (IntKind.wrap IntKind.i64 (Option.getD (x_4.snd.snd (List.getD x.fst.snd.fst (Int.toNat x_4.fst) (Ty.zero FatT)).fst) (0 :
  Int) + (1 : Int))))) ∧ Wr (List.length x.fst.snd.fst - Int.toNat (IntKind.wrap IntKind.i64 (x_4.fst + (1 : Int))) < List.length x.fst.snd.fst - Int.toNat x_4.fst) ∧ Wr (IntKind.wrap IntKind.i64 (x_4.fst + (1 : Int)) =
  IntKind.wrap IntKind.i64 (x_4.fst + (1 : Int))) ∧ Wr (x.fst.snd.fst = x.fst.snd.fst) ∧ Wr (x.fst.snd.fst = x.fst.snd.fst) ∧ Wr ((↑(List.length x.fst.snd.fst) : Int) = (↑(List.length x.fst.snd.fst) : Int)) ∧ Wr
  (x_4.snd.fst + (1 : Nat) ≤ x_4.snd.fst + (1 : Nat)) ∧ Wr (updF AdT I64 x_4.snd.snd (List.getD x.fst.snd.fst (Int.toNat x_4.fst) (Ty.zero FatT)).fst (IntKind.wrap IntKind.i64 (Option.getD (x_4.snd.snd (List.getD
  x.fst.snd.fst (Int.toNat x_4.fst) (Ty.zero FatT)).fst) (0 : Int) + (1 : Int))) = updF AdT I64 x_4.snd.snd (List.getD x.fst.snd.fst (Int.toNat x_4.fst) (Ty.zero FatT)).fst (IntKind.wrap IntKind.i64 (Option.getD
  (x_4.snd.snd (List.getD x.fst.snd.fst (Int.toNat x_4.fst) (Ty.zero FatT)).fst) (0 : Int) + (1 : Int)))) ∧ Wr ((List.getD x.fst.snd.fst (Int.toNat x_3) (Ty.zero FatT)).fst.fst = (List.getD x.fst.snd.fst (Int.toNat x_3)
  (Ty.zero FatT)).fst.fst) ∧ Wr ((List.getD x.fst.snd.fst (Int.toNat x_3) (Ty.zero FatT)).fst.snd.fst.fst = (List.getD x.fst.snd.fst (Int.toNat x_3) (Ty.zero FatT)).fst.snd.fst.fst) ∧ Wr ((List.getD x.fst.snd.fst
  (Int.toNat x_3) (Ty.zero FatT)).fst.snd.fst.snd.fst = (List.getD x.fst.snd.fst (Int.toNat x_3) (Ty.zero FatT)).fst.snd.fst.snd.fst) ∧ Wr ((List.getD x.fst.snd.fst (Int.toNat x_3) (Ty.zero FatT)).fst.snd.fst.snd.snd.fst
  = (List.getD x.fst.snd.fst (Int.toNat x_3) (Ty.zero FatT)).fst.snd.fst.snd.snd.fst) ∧ Wr ((List.getD x.fst.snd.fst (Int.toNat x_3) (Ty.zero FatT)).fst.snd.fst.snd.snd.snd.fst = (List.getD x.fst.snd.fst (Int.toNat x_3)
  (Ty.zero FatT)).fst.snd.fst.snd.snd.snd.fst) ∧ Wr ((List.getD x.fst.snd.fst (Int.toNat x_3) (Ty.zero FatT)).fst.snd.fst.snd.snd.snd.snd.fst = (List.getD x.fst.snd.fst (Int.toNat x_3) (Ty.zero
  FatT)).fst.snd.fst.snd.snd.snd.snd.fst) ∧ Wr ((List.getD x.fst.snd.fst (Int.toNat x_3) (Ty.zero FatT)).fst.snd.fst.snd.snd.snd.snd.snd.fst = (List.getD x.fst.snd.fst (Int.toNat x_3) (Ty.zero
  FatT)).fst.snd.fst.snd.snd.snd.snd.snd.fst) ∧ Wr ((List.getD x.fst.snd.fst (Int.toNat x_3) (Ty.zero FatT)).fst.snd.fst.snd.snd.snd.snd.snd.snd.fst = (List.getD x.fst.snd.fst (Int.toNat x_3) (Ty.zero
  FatT)).fst.snd.fst.snd.snd.snd.snd.snd.snd.fst) ∧ Wr ((List.getD x.fst.snd.fst (Int.toNat x_3) (Ty.zero FatT)).fst.snd.fst.snd.snd.snd.snd.snd.snd.snd.fst = (List.getD x.fst.snd.fst (Int.toNat x_3) (Ty.zero
  FatT)).fst.snd.fst.snd.snd.snd.snd.snd.snd.snd.fst) ∧ Wr ((List.getD x.fst.snd.fst (Int.toNat x_3) (Ty.zero FatT)).fst.snd.snd.fst = (List.getD x.fst.snd.fst (Int.toNat x_3) (Ty.zero FatT)).fst.snd.snd.fst) ∧ Wr
  ((List.getD x.fst.snd.fst (Int.toNat x_3) (Ty.zero FatT)).snd.fst = (List.getD x.fst.snd.fst (Int.toNat x_3) (Ty.zero FatT)).snd.fst) ∧ Wr (x_2.snd.fst ≤ x_2.snd.fst) ∧ Wr (x_2.snd.snd = x_2.snd.snd) ∧ Wr ((List.getD
  x.fst.fst (Int.toNat x_1) (Ty.zero ZoneT)).fst = (List.getD x.fst.fst (Int.toNat x_1) (Ty.zero ZoneT)).fst) ∧ Wr ((List.getD x.fst.fst (Int.toNat x_1) (Ty.zero ZoneT)).snd.fst = (List.getD x.fst.fst (Int.toNat x_1)
  (Ty.zero ZoneT)).snd.fst) ∧ Wr (x.fst.fst = x.fst.fst) ∧ Wr (x.fst.snd.fst = x.fst.snd.fst) ∧ Wr (x.fst.snd.snd.fst = x.fst.snd.snd.fst) ∧ Wr (x.fst.snd.snd.snd.fst = x.fst.snd.snd.snd.fst))) (bcase (Bool.true &&
  Bool.true && Decidable.decide (x.fst.snd.snd.fst ≥ (0 : Int)) && Decidable.decide (x.fst.snd.snd.fst ≤ (200 : Int))) (bcase (Decidable.decide ((↑(List.length x.fst.snd.snd.snd.fst) : Int) ≥ (0 : Int)) &&
  Decidable.decide ((↑(List.length x.fst.snd.snd.snd.fst) : Int) ≤ (16 : Int))) ((Wr (IdxI (notB dropOk) x.fst.snd.snd.snd.fst (0 : Int)) ∧ Wr ((0 : Int) = (0 : Int)) ∧ Wr (x.fst.snd.snd.snd.fst = x.fst.snd.snd.snd.fst) ∧
  Wr (x.fst.snd.snd.snd.fst = x.fst.snd.snd.snd.fst) ∧ Wr ((↑(List.length x.fst.snd.snd.snd.fst) : Int) = (↑(List.length x.fst.snd.snd.snd.fst) : Int)) ∧ Wr (x_4.snd.fst ≤ x_4.snd.fst) ∧ Wr (x_4.snd.snd = x_4.snd.snd) ∧
  Wr ((List.getD x.fst.snd.fst (Int.toNat x_3) (Ty.zero FatT)).fst.fst = (List.getD x.fst.snd.fst (Int.toNat x_3) (Ty.zero FatT)).fst.fst) ∧ Wr ((List.getD x.fst.snd.fst (Int.toNat x_3) (Ty.zero FatT)).fst.snd.fst.fst =
  (List.getD x.fst.snd.fst (Int.toNat x_3) (Ty.zero FatT)).fst.snd.fst.fst) ∧ Wr ((List.getD x.fst.snd.fst (Int.toNat x_3) (Ty.zero FatT)).fst.snd.fst.snd.fst = (List.getD x.fst.snd.fst (Int.toNat x_3) (Ty.zero
  FatT)).fst.snd.fst.snd.fst) ∧ Wr ((List.getD x.fst.snd.fst (Int.toNat x_3) (Ty.zero FatT)).fst.snd.fst.snd.snd.fst = (List.getD x.fst.snd.fst (Int.toNat x_3) (Ty.zero FatT)).fst.snd.fst.snd.snd.fst) ∧ Wr ((List.getD
  x.fst.snd.fst (Int.toNat x_3) (Ty.zero FatT)).fst.snd.fst.snd.snd.snd.fst = (List.getD x.fst.snd.fst (Int.toNat x_3) (Ty.zero FatT)).fst.snd.fst.snd.snd.snd.fst) ∧ Wr ((List.getD x.fst.snd.fst (Int.toNat x_3) (Ty.zero
  FatT)).fst.snd.fst.snd.snd.snd.snd.fst = (List.getD x.fst.snd.fst (Int.toNat x_3) (Ty.zero FatT)).fst.snd.fst.snd.snd.snd.snd.fst) ∧ Wr ((List.getD x.fst.snd.fst (Int.toNat x_3) (Ty.zero
  FatT)).fst.snd.fst.snd.snd.snd.snd.snd.fst = (List.getD x.fst.snd.fst (Int.toNat x_3) (Ty.zero FatT)).fst.snd.fst.snd.snd.snd.snd.snd.fst) ∧ Wr ((List.getD x.fst.snd.fst (Int.toNat x_3) (Ty.zero
  FatT)).fst.snd.fst.snd.snd.snd.snd.snd.snd.fst = (List.getD x.fst.snd.fst (Int.toNat x_3) (Ty.zero FatT)).fst.snd.fst.snd.snd.snd.snd.snd.snd.fst) ∧ Wr ((List.getD x.fst.snd.fst (Int.toNat x_3) (Ty.zero
  FatT)).fst.snd.fst.snd.snd.snd.snd.snd.snd.snd.fst = (List.getD x.fst.snd.fst (Int.toNat x_3) (Ty.zero FatT)).fst.snd.fst.snd.snd.snd.snd.snd.snd.snd.fst) ∧ Wr ((List.getD x.fst.snd.fst (Int.toNat x_3) (Ty.zero
  FatT)).fst.snd.snd.fst = (List.getD x.fst.snd.fst (Int.toNat x_3) (Ty.zero FatT)).fst.snd.snd.fst) ∧ Wr ((List.getD x.fst.snd.fst (Int.toNat x_3) (Ty.zero FatT)).snd.fst = (List.getD x.fst.snd.fst (Int.toNat x_3)
  (Ty.zero FatT)).snd.fst) ∧ Wr (x_2.snd.fst ≤ x_2.snd.fst) ∧ Wr (x_2.snd.snd = x_2.snd.snd) ∧ Wr ((List.getD x.fst.fst (Int.toNat x_1) (Ty.zero ZoneT)).fst = (List.getD x.fst.fst (Int.toNat x_1) (Ty.zero ZoneT)).fst) ∧
  Wr ((List.getD x.fst.fst (Int.toNat x_1) (Ty.zero ZoneT)).snd.fst = (List.getD x.fst.fst (Int.toNat x_1) (Ty.zero ZoneT)).snd.fst) ∧ Wr (x.fst.fst = x.fst.fst) ∧ Wr (x.fst.snd.fst = x.fst.snd.fst) ∧ Wr
  (x.fst.snd.snd.fst = x.fst.snd.snd.fst) ∧ Wr (x.fst.snd.snd.snd.fst = x.fst.snd.snd.snd.fst)) ∧ ∀ (x_5 : Int), Wr (IdxI (notB dropOk) x.fst.snd.snd.snd.fst x_5) → bcase (Decidable.decide (x_5 < (↑(List.length
  x.fst.snd.snd.snd.fst) : Int))) (Wr ((0 : Int) ≤ x_5) ∧ Wr (x_5 < (↑(List.length x.fst.snd.snd.snd.fst) : Int)) ∧ Wr (Bool.true = Bool.true) ∧ Wr (Bool.true = Bool.true) ∧ bcase (!dropOk (List.getD x.fst.snd.snd.snd.fst
  (Int.toNat x_5) (0 : Int))) (bcase (Bool.true && (Bool.true && !Decidable.decide (x_5 ≥ (0 : Int)))) (((0 : Int), ()) = (check x.fst, ())) (((90 : Int), ()) = (check x.fst, ()))) (Wr (IdxI (notB dropOk)
  x.fst.snd.snd.snd.fst (IntKind.wrap IntKind.i64 (x_5 + (1 : Int)))) ∧ Wr (List.length x.fst.snd.snd.snd.fst - Int.toNat (IntKind.wrap IntKind.i64 (x_5 + (1 : Int))) < List.length x.fst.snd.snd.snd.fst - Int.toNat x_5) ∧
  Wr (IntKind.wrap IntKind.i64 (x_5 + (1 : Int)) = IntKind.wrap IntKind.i64 (x_5 + (1 : Int))) ∧ Wr (x.fst.snd.snd.snd.fst = x.fst.snd.snd.snd.fst) ∧ Wr (x.fst.snd.snd.snd.fst = x.fst.snd.snd.snd.fst) ∧ Wr ((↑(List.length
  x.fst.snd.snd.snd.fst) : Int) = (↑(List.length x.fst.snd.snd.snd.fst) : Int)) ∧ Wr (x_4.snd.fst ≤ x_4.snd.fst) ∧ Wr (x_4.snd.snd = x_4.snd.snd) ∧ Wr ((List.getD x.fst.snd.fst (Int.toNat x_3) (Ty.zero FatT)).fst.fst =
  (List.getD x.fst.snd.fst (Int.toNat x_3) (Ty.zero FatT)).fst.fst) ∧ Wr ((List.getD x.fst.snd.fst (Int.toNat x_3) (Ty.zero FatT)).fst.snd.fst.fst = (List.getD x.fst.snd.fst (Int.toNat x_3) (Ty.zero
  FatT)).fst.snd.fst.fst) ∧ Wr ((List.getD x.fst.snd.fst (Int.toNat x_3) (Ty.zero FatT)).fst.snd.fst.snd.fst = (List.getD x.fst.snd.fst (Int.toNat x_3) (Ty.zero FatT)).fst.snd.fst.snd.fst) ∧ Wr ((List.getD x.fst.snd.fst
  (Int.toNat x_3) (Ty.zero FatT)).fst.snd.fst.snd.snd.fst = (List.getD x.fst.snd.fst (Int.toNat x_3) (Ty.zero FatT)).fst.snd.fst.snd.snd.fst) ∧ Wr ((List.getD x.fst.snd.fst (Int.toNat x_3) (Ty.zero
  FatT)).fst.snd.fst.snd.snd.snd.fst = (List.getD x.fst.snd.fst (Int.toNat x_3) (Ty.zero FatT)).fst.snd.fst.snd.snd.snd.fst) ∧ Wr ((List.getD x.fst.snd.fst (Int.toNat x_3) (Ty.zero FatT)).fst.snd.fst.snd.snd.snd.snd.fst =
  (List.getD x.fst.snd.fst (Int.toNat x_3) (Ty.zero FatT)).fst.snd.fst.snd.snd.snd.snd.fst) ∧ Wr ((List.getD x.fst.snd.fst (Int.toNat x_3) (Ty.zero FatT)).fst.snd.fst.snd.snd.snd.snd.snd.fst = (List.getD x.fst.snd.fst
  (Int.toNat x_3) (Ty.zero FatT)).fst.snd.fst.snd.snd.snd.snd.snd.fst) ∧ Wr ((List.getD x.fst.snd.fst (Int.toNat x_3) (Ty.zero FatT)).fst.snd.fst.snd.snd.snd.snd.snd.snd.fst = (List.getD x.fst.snd.fst (Int.toNat x_3)
  (Ty.zero FatT)).fst.snd.fst.snd.snd.snd.snd.snd.snd.fst) ∧ Wr ((List.getD x.fst.snd.fst (Int.toNat x_3) (Ty.zero FatT)).fst.snd.fst.snd.snd.snd.snd.snd.snd.snd.fst = (List.getD x.fst.snd.fst (Int.toNat x_3) (Ty.zero
  FatT)).fst.snd.fst.snd.snd.snd.snd.snd.snd.snd.fst) ∧ Wr ((List.getD x.fst.snd.fst (Int.toNat x_3) (Ty.zero FatT)).fst.snd.snd.fst = (List.getD x.fst.snd.fst (Int.toNat x_3) (Ty.zero FatT)).fst.snd.snd.fst) ∧ Wr
  ((List.getD x.fst.snd.fst (Int.toNat x_3) (Ty.zero FatT)).snd.fst = (List.getD x.fst.snd.fst (Int.toNat x_3) (Ty.zero FatT)).snd.fst) ∧ Wr (x_2.snd.fst ≤ x_2.snd.fst) ∧ Wr (x_2.snd.snd = x_2.snd.snd) ∧ Wr ((List.getD
  x.fst.fst (Int.toNat x_1) (Ty.zero ZoneT)).fst = (List.getD x.fst.fst (Int.toNat x_1) (Ty.zero ZoneT)).fst) ∧ Wr ((List.getD x.fst.fst (Int.toNat x_1) (Ty.zero ZoneT)).snd.fst = (List.getD x.fst.fst (Int.toNat x_1)
  (Ty.zero ZoneT)).snd.fst) ∧ Wr (x.fst.fst = x.fst.fst) ∧ Wr (x.fst.snd.fst = x.fst.snd.fst) ∧ Wr (x.fst.snd.snd.fst = x.fst.snd.snd.fst) ∧ Wr (x.fst.snd.snd.snd.fst = x.fst.snd.snd.snd.fst))) (((0 : Int), ()) = (check
  x.fst, ()))) (((90 : Int), ()) = (check x.fst, ()))) (((90 : Int), ()) = (check x.fst, ())))) (((90 : Int), ()) = (check x.fst, ()))) (Wr (IdxI (notB fateOk) x.fst.snd.fst (IntKind.wrap IntKind.i64 (x_3 + (1 : Int)))) ∧
  Wr (List.length x.fst.snd.fst - Int.toNat (IntKind.wrap IntKind.i64 (x_3 + (1 : Int))) < List.length x.fst.snd.fst - Int.toNat x_3) ∧ Wr (IntKind.wrap IntKind.i64 (x_3 + (1 : Int)) = IntKind.wrap IntKind.i64 (x_3 + (1 :
  Int))) ∧ Wr (x.fst.snd.fst = x.fst.snd.fst) ∧ Wr (x.fst.snd.fst = x.fst.snd.fst) ∧ Wr ((↑(List.length x.fst.snd.fst) : Int) = (↑(List.length x.fst.snd.fst) : Int)) ∧ Wr (x_2.snd.fst ≤ x_2.snd.fst) ∧ Wr (x_2.snd.snd =
  x_2.snd.snd) ∧ Wr ((List.getD x.fst.fst (Int.toNat x_1) (Ty.zero ZoneT)).fst = (List.getD x.fst.fst (Int.toNat x_1) (Ty.zero ZoneT)).fst) ∧ Wr ((List.getD x.fst.fst (Int.toNat x_1) (Ty.zero ZoneT)).snd.fst = (List.getD
  x.fst.fst (Int.toNat x_1) (Ty.zero ZoneT)).snd.fst) ∧ Wr (x.fst.fst = x.fst.fst) ∧ Wr (x.fst.snd.fst = x.fst.snd.fst) ∧ Wr (x.fst.snd.snd.fst = x.fst.snd.snd.fst) ∧ Wr (x.fst.snd.snd.snd.fst = x.fst.snd.snd.snd.fst)))
  ((Wr (UnlI adOf x.fst.snd.fst (0 : Int) (0 : Nat) fun (x : Int × (Int × Int × Int × Int × Int × Int × Int × Int × Unit) × Int × Unit) => noneO Int) ∧ Wr ((0 : Int) = (0 : Int)) ∧ Wr (x.fst.snd.fst = x.fst.snd.fst) ∧ Wr
  (x.fst.snd.fst = x.fst.snd.fst) ∧ Wr ((↑(List.length x.fst.snd.fst) : Int) = (↑(List.length x.fst.snd.fst) : Int)) ∧ Wr ((0 : Nat) ≤ (0 : Nat)) ∧ Wr ((fun (x : Int × (Int × Int × Int × Int × Int × Int × Int × Int ×
  Unit) × Int × Unit) => noneO Int) = fun (x : Int × (Int × Int × Int × Int × Int × Int × Int × Int × Unit) × Int × Unit) => noneO Int) ∧ Wr (x_2.snd.fst ≤ x_2.snd.fst) ∧ Wr (x_2.snd.snd = x_2.snd.snd) ∧ Wr ((List.getD
  x.fst.fst (Int.toNat x_1) (Ty.zero ZoneT)).fst = (List.getD x.fst.fst (Int.toNat x_1) (Ty.zero ZoneT)).fst) ∧ Wr ((List.getD x.fst.fst (Int.toNat x_1) (Ty.zero ZoneT)).snd.fst = (List.getD x.fst.fst (Int.toNat x_1)
  (Ty.zero ZoneT)).snd.fst) ∧ Wr (x.fst.fst = x.fst.fst) ∧ Wr (x.fst.snd.fst = x.fst.snd.fst) ∧ Wr (x.fst.snd.snd.fst = x.fst.snd.snd.fst) ∧ Wr (x.fst.snd.snd.snd.fst = x.fst.snd.snd.snd.fst)) ∧ ∀ (x_4 : Int × Nat × (Int
  × (Int × Int × Int × Int × Int × Int × Int × Int × Unit) × Int × Unit → Option Int)), Wr (UnlI adOf x.fst.snd.fst x_4.fst x_4.snd.fst x_4.snd.snd) → bcase (Decidable.decide (x_4.fst < (↑(List.length x.fst.snd.fst) :
  Int))) (Wr ((0 : Int) ≤ x_4.fst) ∧ Wr (x_4.fst < (↑(List.length x.fst.snd.fst) : Int)) ∧ Wr (Bool.true = Bool.true) ∧ Wr (x_4.snd.fst < Go.maxLen) ∧ bcase (Decidable.decide (Option.getD (updF AdT I64 x_4.snd.snd
  (List.getD x.fst.snd.fst (Int.toNat x_4.fst) (Ty.zero FatT)).fst (IntKind.wrap IntKind.i64 (Option.getD (x_4.snd.snd (List.getD x.fst.snd.fst (Int.toNat x_4.fst) (Ty.zero FatT)).fst) (0 : Int) + (1 : Int))) (List.getD
  x.fst.snd.fst (Int.toNat x_4.fst) (Ty.zero FatT)).fst) (0 : Int) > (1 : Int))) (((90 : Int), ()) = (check x.fst, ())) (Wr (UnlI adOf x.fst.snd.fst (IntKind.wrap IntKind.i64 (x_4.fst + (1 : Int))) (x_4.snd.fst + (1 :
  Nat)) (updF AdT I64 x_4.snd.snd (List.getD x.fst.snd.fst (Int.toNat x_4.fst) (Ty.zero FatT)).fst (IntKind.wrap IntKind.i64 (Option.getD (x_4.snd.snd (List.getD x.fst.snd.fst (Int.toNat x_4.fst) (Ty.zero FatT)).fst) (0 :
  Int) + (1 : Int))))) ∧ Wr (List.length x.fst.snd.fst - Int.toNat (IntKind.wrap IntKind.i64 (x_4.fst + (1 : Int))) < List.length x.fst.snd.fst - Int.toNat x_4.fst) ∧ Wr (IntKind.wrap IntKind.i64 (x_4.fst + (1 : Int)) =
  IntKind.wrap IntKind.i64 (x_4.fst + (1 : Int))) ∧ Wr (x.fst.snd.fst = x.fst.snd.fst) ∧ Wr (x.fst.snd.fst = x.fst.snd.fst) ∧ Wr ((↑(List.length x.fst.snd.fst) : Int) = (↑(List.length x.fst.snd.fst) : Int)) ∧ Wr
  (x_4.snd.fst + (1 : Nat) ≤ x_4.snd.fst + (1 : Nat)) ∧ Wr (updF AdT I64 x_4.snd.snd (List.getD x.fst.snd.fst (Int.toNat x_4.fst) (Ty.zero FatT)).fst (IntKind.wrap IntKind.i64 (Option.getD (x_4.snd.snd (List.getD
  x.fst.snd.fst (Int.toNat x_4.fst) (Ty.zero FatT)).fst) (0 : Int) + (1 : Int))) = updF AdT I64 x_4.snd.snd (List.getD x.fst.snd.fst (Int.toNat x_4.fst) (Ty.zero FatT)).fst (IntKind.wrap IntKind.i64 (Option.getD
  (x_4.snd.snd (List.getD x.fst.snd.fst (Int.toNat x_4.fst) (Ty.zero FatT)).fst) (0 : Int) + (1 : Int)))) ∧ Wr (x_2.snd.fst ≤ x_2.snd.fst) ∧ Wr (x_2.snd.snd = x_2.snd.snd) ∧ Wr ((List.getD x.fst.fst (Int.toNat x_1)
  (Ty.zero ZoneT)).fst = (List.getD x.fst.fst (Int.toNat x_1) (Ty.zero ZoneT)).fst) ∧ Wr ((List.getD x.fst.fst (Int.toNat x_1) (Ty.zero ZoneT)).snd.fst = (List.getD x.fst.fst (Int.toNat x_1) (Ty.zero ZoneT)).snd.fst) ∧ Wr
  (x.fst.fst = x.fst.fst) ∧ Wr (x.fst.snd.fst = x.fst.snd.fst) ∧ Wr (x.fst.snd.snd.fst = x.fst.snd.snd.fst) ∧ Wr (x.fst.snd.snd.snd.fst = x.fst.snd.snd.snd.fst))) (bcase (Bool.true && Bool.true && Decidable.decide
  (x.fst.snd.snd.fst ≥ (0 : Int)) && Decidable.decide (x.fst.snd.snd.fst ≤ (200 : Int))) (bcase (Decidable.decide ((↑(List.length x.fst.snd.snd.snd.fst) : Int) ≥ (0 : Int)) && Decidable.decide ((↑(List.length
  x.fst.snd.snd.snd.fst) : Int) ≤ (16 : Int))) ((Wr (IdxI (notB dropOk) x.fst.snd.snd.snd.fst (0 : Int)) ∧ Wr ((0 : Int) = (0 : Int)) ∧ Wr (x.fst.snd.snd.snd.fst = x.fst.snd.snd.snd.fst) ∧ Wr (x.fst.snd.snd.snd.fst =
  x.fst.snd.snd.snd.fst) ∧ Wr ((↑(List.length x.fst.snd.snd.snd.fst) : Int) = (↑(List.length x.fst.snd.snd.snd.fst) : Int)) ∧ Wr (x_4.snd.fst ≤ x_4.snd.fst) ∧ Wr (x_4.snd.snd = x_4.snd.snd) ∧ Wr (x_2.snd.fst ≤
  x_2.snd.fst) ∧ Wr (x_2.snd.snd = x_2.snd.snd) ∧ Wr ((List.getD x.fst.fst (Int.toNat x_1) (Ty.zero ZoneT)).fst = (List.getD x.fst.fst (Int.toNat x_1) (Ty.zero ZoneT)).fst) ∧ Wr ((List.getD x.fst.fst (Int.toNat x_1)
  (Ty.zero ZoneT)).snd.fst = (List.getD x.fst.fst (Int.toNat x_1) (Ty.zero ZoneT)).snd.fst) ∧ Wr (x.fst.fst = x.fst.fst) ∧ Wr (x.fst.snd.fst = x.fst.snd.fst) ∧ Wr (x.fst.snd.snd.fst = x.fst.snd.snd.fst) ∧ Wr
  (x.fst.snd.snd.snd.fst = x.fst.snd.snd.snd.fst)) ∧ ∀ (x_5 : Int), Wr (IdxI (notB dropOk) x.fst.snd.snd.snd.fst x_5) → bcase (Decidable.decide (x_5 < (↑(List.length x.fst.snd.snd.snd.fst) : Int))) (Wr ((0 : Int) ≤ x_5) ∧
  Wr (x_5 < (↑(List.length x.fst.snd.snd.snd.fst) : Int)) ∧ Wr (Bool.true = Bool.true) ∧ Wr (Bool.true = Bool.true) ∧ bcase (!dropOk (List.getD x.fst.snd.snd.snd.fst (Int.toNat x_5) (0 : Int))) (bcase (Bool.true &&
  (Bool.true && !Decidable.decide (x_5 ≥ (0 : Int)))) (((0 : Int), ()) = (check x.fst, ())) (((90 : Int), ()) = (check x.fst, ()))) (Wr (IdxI (notB dropOk) x.fst.snd.snd.snd.fst (IntKind.wrap IntKind.i64 (x_5 + (1 :
  Int)))) ∧ Wr (List.length x.fst.snd.snd.snd.fst - Int.toNat (IntKind.wrap IntKind.i64 (x_5 + (1 : Int))) < List.length x.fst.snd.snd.snd.fst - Int.toNat x_5) ∧ Wr (IntKind.wrap IntKind.i64 (x_5 + (1 : Int)) =
  IntKind.wrap IntKind.i64 (x_5 + (1 : Int))) ∧ Wr (x.fst.snd.snd.snd.fst = x.fst.snd.snd.snd.fst) ∧ Wr (x.fst.snd.snd.snd.fst = x.fst.snd.snd.snd.fst) ∧ Wr ((↑(List.length x.fst.snd.snd.snd.fst) : Int) = (↑(List.length
  x.fst.snd.snd.snd.fst) : Int)) ∧ Wr (x_4.snd.fst ≤ x_4.snd.fst) ∧ Wr (x_4.snd.snd = x_4.snd.snd) ∧ Wr (x_2.snd.fst ≤ x_2.snd.fst) ∧ Wr (x_2.snd.snd = x_2.snd.snd) ∧ Wr ((List.getD x.fst.fst (Int.toNat x_1) (Ty.zero
  ZoneT)).fst = (List.getD x.fst.fst (Int.toNat x_1) (Ty.zero ZoneT)).fst) ∧ Wr ((List.getD x.fst.fst (Int.toNat x_1) (Ty.zero ZoneT)).snd.fst = (List.getD x.fst.fst (Int.toNat x_1) (Ty.zero ZoneT)).snd.fst) ∧ Wr
  (x.fst.fst = x.fst.fst) ∧ Wr (x.fst.snd.fst = x.fst.snd.fst) ∧ Wr (x.fst.snd.snd.fst = x.fst.snd.snd.fst) ∧ Wr (x.fst.snd.snd.snd.fst = x.fst.snd.snd.snd.fst))) (((0 : Int), ()) = (check x.fst, ()))) (((90 : Int), ()) =
  (check x.fst, ()))) (((90 : Int), ()) = (check x.fst, ()))))) (((90 : Int), ()) = (check x.fst, ())))) (((90 : Int), ()) = (check x.fst, ()))) (Wr (IdxI (notB zoneOk) x.fst.fst (IntKind.wrap IntKind.i64 (x_1 + (1 :
  Int)))) ∧ Wr (List.length x.fst.fst - Int.toNat (IntKind.wrap IntKind.i64 (x_1 + (1 : Int))) < List.length x.fst.fst - Int.toNat x_1) ∧ Wr (IntKind.wrap IntKind.i64 (x_1 + (1 : Int)) = IntKind.wrap IntKind.i64 (x_1 + (1
  : Int))) ∧ Wr (x.fst.fst = x.fst.fst) ∧ Wr (x.fst.fst = x.fst.fst) ∧ Wr ((↑(List.length x.fst.fst) : Int) = (↑(List.length x.fst.fst) : Int)) ∧ Wr (x.fst.fst = x.fst.fst) ∧ Wr (x.fst.snd.fst = x.fst.snd.fst) ∧ Wr
  (x.fst.snd.snd.fst = x.fst.snd.snd.fst) ∧ Wr (x.fst.snd.snd.snd.fst = x.fst.snd.snd.snd.fst))) ((Wr (UnlI nameOf x.fst.fst (0 : Int) (0 : Nat) fun (x : ByteArray) => noneO Int) ∧ Wr ((0 : Int) = (0 : Int)) ∧ Wr
  (x.fst.fst = x.fst.fst) ∧ Wr (x.fst.fst = x.fst.fst) ∧ Wr ((↑(List.length x.fst.fst) : Int) = (↑(List.length x.fst.fst) : Int)) ∧ Wr ((0 : Nat) ≤ (0 : Nat)) ∧ Wr ((fun (x : ByteArray) => noneO Int) = fun (x : ByteArray)
  => noneO Int) ∧ Wr (x.fst.fst = x.fst.fst) ∧ Wr (x.fst.snd.fst = x.fst.snd.fst) ∧ Wr (x.fst.snd.snd.fst = x.fst.snd.snd.fst) ∧ Wr (x.fst.snd.snd.snd.fst = x.fst.snd.snd.snd.fst)) ∧ ∀ (x_2 : Int × Nat × (ByteArray →
  Option Int)), Wr (UnlI nameOf x.fst.fst x_2.fst x_2.snd.fst x_2.snd.snd) → bcase (Decidable.decide (x_2.fst < (↑(List.length x.fst.fst) : Int))) (Wr ((0 : Int) ≤ x_2.fst) ∧ Wr (x_2.fst < (↑(List.length x.fst.fst) :
  Int)) ∧ Wr (Bool.true = Bool.true) ∧ Wr (x_2.snd.fst < Go.maxLen) ∧ bcase (Decidable.decide (Option.getD (updF Ty.str I64 x_2.snd.snd (List.getD x.fst.fst (Int.toNat x_2.fst) (Ty.zero ZoneT)).fst (IntKind.wrap
  IntKind.i64 (Option.getD (x_2.snd.snd (List.getD x.fst.fst (Int.toNat x_2.fst) (Ty.zero ZoneT)).fst) (0 : Int) + (1 : Int))) (List.getD x.fst.fst (Int.toNat x_2.fst) (Ty.zero ZoneT)).fst) (0 : Int) > (1 : Int))) (((90 :
  Int), ()) = (check x.fst, ())) (Wr (UnlI nameOf x.fst.fst (IntKind.wrap IntKind.i64 (x_2.fst + (1 : Int))) (x_2.snd.fst + (1 : Nat)) (updF Ty.str I64 x_2.snd.snd (List.getD x.fst.fst (Int.toNat x_2.fst) (Ty.zero
  ZoneT)).fst (IntKind.wrap IntKind.i64 (Option.getD (x_2.snd.snd (List.getD x.fst.fst (Int.toNat x_2.fst) (Ty.zero ZoneT)).fst) (0 : Int) + (1 : Int))))) ∧ Wr (List.length x.fst.fst - Int.toNat (IntKind.wrap IntKind.i64
  (x_2.fst + (1 : Int))) < List.length x.fst.fst - Int.toNat x_2.fst) ∧ Wr (IntKind.wrap IntKind.i64 (x_2.fst + (1 : Int)) = IntKind.wrap IntKind.i64 (x_2.fst + (1 : Int))) ∧ Wr (x.fst.fst = x.fst.fst) ∧ Wr (x.fst.fst =
  x.fst.fst) ∧ Wr ((↑(List.length x.fst.fst) : Int) = (↑(List.length x.fst.fst) : Int)) ∧ Wr (x_2.snd.fst + (1 : Nat) ≤ x_2.snd.fst + (1 : Nat)) ∧ Wr (updF Ty.str I64 x_2.snd.snd (List.getD x.fst.fst (Int.toNat x_2.fst)
  (Ty.zero ZoneT)).fst (IntKind.wrap IntKind.i64 (Option.getD (x_2.snd.snd (List.getD x.fst.fst (Int.toNat x_2.fst) (Ty.zero ZoneT)).fst) (0 : Int) + (1 : Int))) = updF Ty.str I64 x_2.snd.snd (List.getD x.fst.fst
  (Int.toNat x_2.fst) (Ty.zero ZoneT)).fst (IntKind.wrap IntKind.i64 (Option.getD (x_2.snd.snd (List.getD x.fst.fst (Int.toNat x_2.fst) (Ty.zero ZoneT)).fst) (0 : Int) + (1 : Int)))) ∧ Wr (x.fst.fst = x.fst.fst) ∧ Wr
  (x.fst.snd.fst = x.fst.snd.fst) ∧ Wr (x.fst.snd.snd.fst = x.fst.snd.snd.fst) ∧ Wr (x.fst.snd.snd.snd.fst = x.fst.snd.snd.snd.fst))) (bcase (Decidable.decide ((↑(List.length x.fst.snd.fst) : Int) ≥ (0 : Int)) &&
  Decidable.decide ((↑(List.length x.fst.snd.fst) : Int) ≤ (32 : Int))) ((Wr (IdxI (notB fateOk) x.fst.snd.fst (0 : Int)) ∧ Wr ((0 : Int) = (0 : Int)) ∧ Wr (x.fst.snd.fst = x.fst.snd.fst) ∧ Wr (x.fst.snd.fst =
  x.fst.snd.fst) ∧ Wr ((↑(List.length x.fst.snd.fst) : Int) = (↑(List.length x.fst.snd.fst) : Int)) ∧ Wr (x_2.snd.fst ≤ x_2.snd.fst) ∧ Wr (x_2.snd.snd = x_2.snd.snd) ∧ Wr (x.fst.fst = x.fst.fst) ∧ Wr (x.fst.snd.fst =
  x.fst.snd.fst) ∧ Wr (x.fst.snd.snd.fst = x.fst.snd.snd.fst) ∧ Wr (x.fst.snd.snd.snd.fst = x.fst.snd.snd.snd.fst)) ∧ ∀ (x_3 : Int), Wr (IdxI (notB fateOk) x.fst.snd.fst x_3) → bcase (Decidable.decide (x_3 <
  (↑(List.length x.fst.snd.fst) : Int))) (Wr ((0 : Int) ≤ x_3) ∧ Wr (x_3 < (↑(List.length x.fst.snd.fst) : Int)) ∧ Wr (Bool.true = Bool.true) ∧ Wr (Bool.true = Bool.true) ∧ bcase (!fateOk (List.getD x.fst.snd.fst
  (Int.toNat x_3) (Ty.zero FatT))) (bcase (Bool.true && (Bool.true && !Decidable.decide (x_3 ≥ (0 : Int)))) ((Wr (UnlI adOf x.fst.snd.fst (0 : Int) (0 : Nat) fun (x : Int × (Int × Int × Int × Int × Int × Int × Int × Int ×
  Unit) × Int × Unit) => noneO Int) ∧ Wr ((0 : Int) = (0 : Int)) ∧ Wr (x.fst.snd.fst = x.fst.snd.fst) ∧ Wr (x.fst.snd.fst = x.fst.snd.fst) ∧ Wr ((↑(List.length x.fst.snd.fst) : Int) = (↑(List.length x.fst.snd.fst) : Int))
  ∧ Wr ((0 : Nat) ≤ (0 : Nat)) ∧ Wr ((fun (x : Int × (Int × Int × Int × Int × Int × Int × Int × Int × Unit) × Int × Unit) => noneO Int) = fun (x : Int × (Int × Int × Int × Int × Int × Int × Int × Int × Unit) × Int × Unit)
  => noneO Int) ∧ Wr ((List.getD x.fst.snd.fst (Int.toNat x_3) (Ty.zero FatT)).fst.fst = (List.getD x.fst.snd.fst (Int.toNat x_3) (Ty.zero FatT)).fst.fst) ∧ Wr ((List.getD x.fst.snd.fst (Int.toNat x_3) (Ty.zero
  FatT)).fst.snd.fst.fst = (List.getD x.fst.snd.fst (Int.toNat x_3) (Ty.zero FatT)).fst.snd.fst.fst) ∧ Wr ((List.getD x.fst.snd.fst (Int.toNat x_3) (Ty.zero FatT)).fst.snd.fst.snd.fst = (List.getD x.fst.snd.fst (Int.toNat
  x_3) (Ty.zero FatT)).fst.snd.fst.snd.fst) ∧ Wr ((List.getD x.fst.snd.fst (Int.toNat x_3) (Ty.zero FatT)).fst.snd.fst.snd.snd.fst = (List.getD x.fst.snd.fst (Int.toNat x_3) (Ty.zero FatT)).fst.snd.fst.snd.snd.fst) ∧ Wr
  ((List.getD x.fst.snd.fst (Int.toNat x_3) (Ty.zero FatT)).fst.snd.fst.snd.snd.snd.fst = (List.getD x.fst.snd.fst (Int.toNat x_3) (Ty.zero FatT)).fst.snd.fst.snd.snd.snd.fst) ∧ Wr ((List.getD x.fst.snd.fst (Int.toNat
  x_3) (Ty.zero FatT)).fst.snd.fst.snd.snd.snd.snd.fst = (List.getD x.fst.snd.fst (Int.toNat x_3) (Ty.zero FatT)).fst.snd.fst.snd.snd.snd.snd.fst) ∧ Wr ((List.getD x.fst.snd.fst (Int.toNat x_3) (Ty.zero
  FatT)).fst.snd.fst.snd.snd.snd.snd.snd.fst = (List.getD x.fst.snd.fst (Int.toNat x_3) (Ty.zero FatT)).fst.snd.fst.snd.snd.snd.snd.snd.fst) ∧ Wr ((List.getD x.fst.snd.fst (Int.toNat x_3) (Ty.zero
  FatT)).fst.snd.fst.snd.snd.snd.snd.snd.snd.fst = (List.getD x.fst.snd.fst (Int.toNat x_3) (Ty.zero FatT)).fst.snd.fst.snd.snd.snd.snd.snd.snd.fst) ∧ Wr ((List.getD x.fst.snd.fst (Int.toNat x_3) (Ty.zero
  FatT)).fst.snd.fst.snd.snd.snd.snd.snd.snd.snd.fst = (List.getD x.fst.snd.fst (Int.toNat x_3) (Ty.zero FatT)).fst.snd.fst.snd.snd.snd.snd.snd.snd.snd.fst) ∧ Wr ((List.getD x.fst.snd.fst (Int.toNat x_3) (Ty.zero
  FatT)).fst.snd.snd.fst = (List.getD x.fst.snd.fst (Int.toNat x_3) (Ty.zero FatT)).fst.snd.snd.fst) ∧ Wr ((List.getD x.fst.snd.fst (Int.toNat x_3) (Ty.zero FatT)).snd.fst = (List.getD x.fst.snd.fst (Int.toNat x_3)
  (Ty.zero FatT)).snd.fst) ∧ Wr (x_2.snd.fst ≤ x_2.snd.fst) ∧ Wr (x_2.snd.snd = x_2.snd.snd) ∧ Wr (x.fst.fst = x.fst.fst) ∧ Wr (x.fst.snd.fst = x.fst.snd.fst) ∧ Wr (x.fst.snd.snd.fst = x.fst.snd.snd.fst) ∧ Wr
  (x.fst.snd.snd.snd.fst = x.fst.snd.snd.snd.fst)) ∧ ∀ (x_4 : Int × Nat × (Int × (Int × Int × Int × Int × Int × Int × Int × Int × Unit) × Int × Unit → Option Int)), Wr (UnlI adOf x.fst.snd.fst x_4.fst x_4.snd.fst
  x_4.snd.snd) → bcase (Decidable.decide (x_4.fst < (↑(List.length x.fst.snd.fst) : Int))) (Wr ((0 : Int) ≤ x_4.fst) ∧ Wr (x_4.fst < (↑(List.length x.fst.snd.fst) : Int)) ∧ Wr (Bool.true = Bool.true) ∧ Wr (x_4.snd.fst <
  Go.maxLen) ∧ bcase (Decidable.decide (Option.getD (updF AdT I64 x_4.snd.snd (List.getD x.fst.snd.fst (Int.toNat x_4.fst) (Ty.zero FatT)).fst (IntKind.wrap IntKind.i64 (Option.getD (x_4.snd.snd (List.getD x.fst.snd.fst
  (Int.toNat x_4.fst) (Ty.zero FatT)).fst) (0 : Int) + (1 : Int))) (List.getD x.fst.snd.fst (Int.toNat x_4.fst) (Ty.zero FatT)).fst) (0 : Int) > (1 : Int))) (((90 : Int), ()) = (check x.fst, ())) (Wr (UnlI adOf
  x.fst.snd.fst (IntKind.wrap IntKind.i64 (x_4.fst + (1 : Int))) (x_4.snd.fst + (1 : Nat)) (updF AdT I64 x_4.snd.snd (List.getD x.fst.snd.fst (Int.toNat x_4.fst) (Ty.zero FatT)).fst (IntKind.wrap IntKind.i64 (Option.getD
  (x_4.snd.snd (List.getD x.fst.snd.fst (Int.toNat x_4.fst) (Ty.zero FatT)).fst) (0 : Int) + (1 : Int))))) ∧ Wr (List.length x.fst.snd.fst - Int.toNat (IntKind.wrap IntKind.i64 (x_4.fst + (1 : Int))) < List.length
  x.fst.snd.fst - Int.toNat x_4.fst) ∧ Wr (IntKind.wrap IntKind.i64 (x_4.fst + (1 : Int)) = IntKind.wrap IntKind.i64 (x_4.fst + (1 : Int))) ∧ Wr (x.fst.snd.fst = x.fst.snd.fst) ∧ Wr (x.fst.snd.fst = x.fst.snd.fst) ∧ Wr
  ((↑(List.length x.fst.snd.fst) : Int) = (↑(List.length x.fst.snd.fst) : Int)) ∧ Wr (x_4.snd.fst + (1 : Nat) ≤ x_4.snd.fst + (1 : Nat)) ∧ Wr (updF AdT I64 x_4.snd.snd (List.getD x.fst.snd.fst (Int.toNat x_4.fst) (Ty.zero
  FatT)).fst (IntKind.wrap IntKind.i64 (Option.getD (x_4.snd.snd (List.getD x.fst.snd.fst (Int.toNat x_4.fst) (Ty.zero FatT)).fst) (0 : Int) + (1 : Int))) = updF AdT I64 x_4.snd.snd (List.getD x.fst.snd.fst (Int.toNat
  x_4.fst) (Ty.zero FatT)).fst (IntKind.wrap IntKind.i64 (Option.getD (x_4.snd.snd (List.getD x.fst.snd.fst (Int.toNat x_4.fst) (Ty.zero FatT)).fst) (0 : Int) + (1 : Int)))) ∧ Wr ((List.getD x.fst.snd.fst (Int.toNat x_3)
  (Ty.zero FatT)).fst.fst = (List.getD x.fst.snd.fst (Int.toNat x_3) (Ty.zero FatT)).fst.fst) ∧ Wr ((List.getD x.fst.snd.fst (Int.toNat x_3) (Ty.zero FatT)).fst.snd.fst.fst = (List.getD x.fst.snd.fst (Int.toNat x_3)
  (Ty.zero FatT)).fst.snd.fst.fst) ∧ Wr ((List.getD x.fst.snd.fst (Int.toNat x_3) (Ty.zero FatT)).fst.snd.fst.snd.fst = (List.getD x.fst.snd.fst (Int.toNat x_3) (Ty.zero FatT)).fst.snd.fst.snd.fst) ∧ Wr ((List.getD
  x.fst.snd.fst (Int.toNat x_3) (Ty.zero FatT)).fst.snd.fst.snd.snd.fst = (List.getD x.fst.snd.fst (Int.toNat x_3) (Ty.zero FatT)).fst.snd.fst.snd.snd.fst) ∧ Wr ((List.getD x.fst.snd.fst (Int.toNat x_3) (Ty.zero
  FatT)).fst.snd.fst.snd.snd.snd.fst = (List.getD x.fst.snd.fst (Int.toNat x_3) (Ty.zero FatT)).fst.snd.fst.snd.snd.snd.fst) ∧ Wr ((List.getD x.fst.snd.fst (Int.toNat x_3) (Ty.zero FatT)).fst.snd.fst.snd.snd.snd.snd.fst =
  (List.getD x.fst.snd.fst (Int.toNat x_3) (Ty.zero FatT)).fst.snd.fst.snd.snd.snd.snd.fst) ∧ Wr ((List.getD x.fst.snd.fst (Int.toNat x_3) (Ty.zero FatT)).fst.snd.fst.snd.snd.snd.snd.snd.fst = (List.getD x.fst.snd.fst
  (Int.toNat x_3) (Ty.zero FatT)).fst.snd.fst.snd.snd.snd.snd.snd.fst) ∧ Wr ((List.getD x.fst.snd.fst (Int.toNat x_3) (Ty.zero FatT)).fst.snd.fst.snd.snd.snd.snd.snd.snd.fst = (List.getD x.fst.snd.fst (Int.toNat x_3)
  (Ty.zero FatT)).fst.snd.fst.snd.snd.snd.snd.snd.snd.fst) ∧ Wr ((List.getD x.fst.snd.fst (Int.toNat x_3) (Ty.zero FatT)).fst.snd.fst.snd.snd.snd.snd.snd.snd.snd.fst = (List.getD x.fst.snd.fst (Int.toNat x_3) (Ty.zero
  FatT)).fst.snd.fst.snd.snd.snd.snd.snd.snd.snd.fst) ∧ Wr ((List.getD x.fst.snd.fst (Int.toNat x_3) (Ty.zero FatT)).fst.snd.snd.fst = (List.getD x.fst.snd.fst (Int.toNat x_3) (Ty.zero FatT)).fst.snd.snd.fst) ∧ Wr
  ((List.getD x.fst.snd.fst (Int.toNat x_3) (Ty.zero FatT)).snd.fst = (List.getD x.fst.snd.fst (Int.toNat x_3) (Ty.zero FatT)).snd.fst) ∧ Wr (x_2.snd.fst ≤ x_2.snd.fst) ∧ Wr (x_2.snd.snd = x_2.snd.snd) ∧ Wr (x.fst.fst =
  x.fst.fst) ∧ Wr (x.fst.snd.fst = x.fst.snd.fst) ∧ Wr (x.fst.snd.snd.fst = x.fst.snd.snd.fst) ∧ Wr (x.fst.snd.snd.snd.fst = x.fst.snd.snd.snd.fst))) (bcase (Bool.true && Bool.true && Decidable.decide (x.fst.snd.snd.fst ≥
  (0 : Int)) && Decidable.decide (x.fst.snd.snd.fst ≤ (200 : Int))) (bcase (Decidable.decide ((↑(List.length x.fst.snd.snd.snd.fst) : Int) ≥ (0 : Int)) && Decidable.decide ((↑(List.length x.fst.snd.snd.snd.fst) : Int) ≤
  (16 : Int))) ((Wr (IdxI (notB dropOk) x.fst.snd.snd.snd.fst (0 : Int)) ∧ Wr ((0 : Int) = (0 : Int)) ∧ Wr (x.fst.snd.snd.snd.fst = x.fst.snd.snd.snd.fst) ∧ Wr (x.fst.snd.snd.snd.fst = x.fst.snd.snd.snd.fst) ∧ Wr
  ((↑(List.length x.fst.snd.snd.snd.fst) : Int) = (↑(List.length x.fst.snd.snd.snd.fst) : Int)) ∧ Wr (x_4.snd.fst ≤ x_4.snd.fst) ∧ Wr (x_4.snd.snd = x_4.snd.snd) ∧ Wr ((List.getD x.fst.snd.fst (Int.toNat x_3) (Ty.zero
  FatT)).fst.fst = (List.getD x.fst.snd.fst (Int.toNat x_3) (Ty.zero FatT)).fst.fst) ∧ Wr ((List.getD x.fst.snd.fst (Int.toNat x_3) (Ty.zero FatT)).fst.snd.fst.fst = (List.getD x.fst.snd.fst (Int.toNat x_3) (Ty.zero
  FatT)).fst.snd.fst.fst) ∧ Wr ((List.getD x.fst.snd.fst (Int.toNat x_3) (Ty.zero FatT)).fst.snd.fst.snd.fst = (List.getD x.fst.snd.fst (Int.toNat x_3) (Ty.zero FatT)).fst.snd.fst.snd.fst) ∧ Wr ((List.getD x.fst.snd.fst
  (Int.toNat x_3) (Ty.zero FatT)).fst.snd.fst.snd.snd.fst = (List.getD x.fst.snd.fst (Int.toNat x_3) (Ty.zero FatT)).fst.snd.fst.snd.snd.fst) ∧ Wr ((List.getD x.fst.snd.fst (Int.toNat x_3) (Ty.zero
  FatT)).fst.snd.fst.snd.snd.snd.fst = (List.getD x.fst.snd.fst (Int.toNat x_3) (Ty.zero FatT)).fst.snd.fst.snd.snd.snd.fst) ∧ Wr ((List.getD x.fst.snd.fst (Int.toNat x_3) (Ty.zero FatT)).fst.snd.fst.snd.snd.snd.snd.fst =
  (List.getD x.fst.snd.fst (Int.toNat x_3) (Ty.zero FatT)).fst.snd.fst.snd.snd.snd.snd.fst) ∧ Wr ((List.getD x.fst.snd.fst (Int.toNat x_3) (Ty.zero FatT)).fst.snd.fst.snd.snd.snd.snd.snd.fst = (List.getD x.fst.snd.fst
  (Int.toNat x_3) (Ty.zero FatT)).fst.snd.fst.snd.snd.snd.snd.snd.fst) ∧ Wr ((List.getD x.fst.snd.fst (Int.toNat x_3) (Ty.zero FatT)).fst.snd.fst.snd.snd.snd.snd.snd.snd.fst = (List.getD x.fst.snd.fst (Int.toNat x_3)
  (Ty.zero FatT)).fst.snd.fst.snd.snd.snd.snd.snd.snd.fst) ∧ Wr ((List.getD x.fst.snd.fst (Int.toNat x_3) (Ty.zero FatT)).fst.snd.fst.snd.snd.snd.snd.snd.snd.snd.fst = (List.getD x.fst.snd.fst (Int.toNat x_3) (Ty.zero
  FatT)).fst.snd.fst.snd.snd.snd.snd.snd.snd.snd.fst) ∧ Wr ((List.getD x.fst.snd.fst (Int.toNat x_3) (Ty.zero FatT)).fst.snd.snd.fst = (List.getD x.fst.snd.fst (Int.toNat x_3) (Ty.zero FatT)).fst.snd.snd.fst) ∧ Wr
  ((List.getD x.fst.snd.fst (Int.toNat x_3) (Ty.zero FatT)).snd.fst = (List.getD x.fst.snd.fst (Int.toNat x_3) (Ty.zero FatT)).snd.fst) ∧ Wr (x_2.snd.fst ≤ x_2.snd.fst) ∧ Wr (x_2.snd.snd = x_2.snd.snd) ∧ Wr (x.fst.fst =
  x.fst.fst) ∧ Wr (x.fst.snd.fst = x.fst.snd.fst) ∧ Wr (x.fst.snd.snd.fst = x.fst.snd.snd.fst) ∧ Wr (x.fst.snd.snd.snd.fst = x.fst.snd.snd.snd.fst)) ∧ ∀ (x_5 : Int), Wr (IdxI (notB dropOk) x.fst.snd.snd.snd.fst x_5) →
  bcase (Decidable.decide (x_5 < (↑(List.length x.fst.snd.snd.snd.fst) : Int))) (Wr ((0 : Int) ≤ x_5) ∧ Wr (x_5 < (↑(List.length x.fst.snd.snd.snd.fst) : Int)) ∧ Wr (Bool.true = Bool.true) ∧ Wr (Bool.true = Bool.true) ∧
  bcase (!dropOk (List.getD x.fst.snd.snd.snd.fst (Int.toNat x_5) (0 : Int))) (bcase (Bool.true && (Bool.true && !Decidable.decide (x_5 ≥ (0 : Int)))) (((0 : Int), ()) = (check x.fst, ())) (((90 : Int), ()) = (check
  x.fst, ()))) (Wr (IdxI (notB dropOk) x.fst.snd.snd.snd.fst (IntKind.wrap IntKind.i64 (x_5 + (1 : Int)))) ∧ Wr (List.length x.fst.snd.snd.snd.fst - Int.toNat (IntKind.wrap IntKind.i64 (x_5 + (1 : Int))) < List.length
  x.fst.snd.snd.snd.fst - Int.toNat x_5) ∧ Wr (IntKind.wrap IntKind.i64 (x_5 + (1 : Int)) = IntKind.wrap IntKind.i64 (x_5 + (1 : Int))) ∧ Wr (x.fst.snd.snd.snd.fst = x.fst.snd.snd.snd.fst) ∧ Wr (x.fst.snd.snd.snd.fst =
  x.fst.snd.snd.snd.fst) ∧ Wr ((↑(List.length x.fst.snd.snd.snd.fst) : Int) = (↑(List.length x.fst.snd.snd.snd.fst) : Int)) ∧ Wr (x_4.snd.fst ≤ x_4.snd.fst) ∧ Wr (x_4.snd.snd = x_4.snd.snd) ∧ Wr ((List.getD x.fst.snd.fst
  (Int.toNat x_3) (Ty.zero FatT)).fst.fst = (List.getD x.fst.snd.fst (Int.toNat x_3) (Ty.zero FatT)).fst.fst) ∧ Wr ((List.getD x.fst.snd.fst (Int.toNat x_3) (Ty.zero FatT)).fst.snd.fst.fst = (List.getD x.fst.snd.fst
  (Int.toNat x_3) (Ty.zero FatT)).fst.snd.fst.fst) ∧ Wr ((List.getD x.fst.snd.fst (Int.toNat x_3) (Ty.zero FatT)).fst.snd.fst.snd.fst = (List.getD x.fst.snd.fst (Int.toNat x_3) (Ty.zero FatT)).fst.snd.fst.snd.fst) ∧ Wr
  ((List.getD x.fst.snd.fst (Int.toNat x_3) (Ty.zero FatT)).fst.snd.fst.snd.snd.fst = (List.getD x.fst.snd.fst (Int.toNat x_3) (Ty.zero FatT)).fst.snd.fst.snd.snd.fst) ∧ Wr ((List.getD x.fst.snd.fst (Int.toNat x_3)
  (Ty.zero FatT)).fst.snd.fst.snd.snd.snd.fst = (List.getD x.fst.snd.fst (Int.toNat x_3) (Ty.zero FatT)).fst.snd.fst.snd.snd.snd.fst) ∧ Wr ((List.getD x.fst.snd.fst (Int.toNat x_3) (Ty.zero
  FatT)).fst.snd.fst.snd.snd.snd.snd.fst = (List.getD x.fst.snd.fst (Int.toNat x_3) (Ty.zero FatT)).fst.snd.fst.snd.snd.snd.snd.fst) ∧ Wr ((List.getD x.fst.snd.fst (Int.toNat x_3) (Ty.zero
  FatT)).fst.snd.fst.snd.snd.snd.snd.snd.fst = (List.getD x.fst.snd.fst (Int.toNat x_3) (Ty.zero FatT)).fst.snd.fst.snd.snd.snd.snd.snd.fst) ∧ Wr ((List.getD x.fst.snd.fst (Int.toNat x_3) (Ty.zero
  FatT)).fst.snd.fst.snd.snd.snd.snd.snd.snd.fst = (List.getD x.fst.snd.fst (Int.toNat x_3) (Ty.zero FatT)).fst.snd.fst.snd.snd.snd.snd.snd.snd.fst) ∧ Wr ((List.getD x.fst.snd.fst (Int.toNat x_3) (Ty.zero
  FatT)).fst.snd.fst.snd.snd.snd.snd.snd.snd.snd.fst = (List.getD x.fst.snd.fst (Int.toNat x_3) (Ty.zero FatT)).fst.snd.fst.snd.snd.snd.snd.snd.snd.snd.fst) ∧ Wr ((List.getD x.fst.snd.fst (Int.toNat x_3) (Ty.zero
  FatT)).fst.snd.snd.fst = (List.getD x.fst.snd.fst (Int.toNat x_3) (Ty.zero FatT)).fst.snd.snd.fst) ∧ Wr ((List.getD x.fst.snd.fst (Int.toNat x_3) (Ty.zero FatT)).snd.fst = (List.getD x.fst.snd.fst (Int.toNat x_3)
  (Ty.zero FatT)).snd.fst) ∧ Wr (x_2.snd.fst ≤ x_2.snd.fst) ∧ Wr (x_2.snd.snd = x_2.snd.snd) ∧ Wr (x.fst.fst = x.fst.fst) ∧ Wr (x.fst.snd.fst = x.fst.snd.fst) ∧ Wr (x.fst.snd.snd.fst = x.fst.snd.snd.fst) ∧ Wr
  (x.fst.snd.snd.snd.fst = x.fst.snd.snd.snd.fst))) (((0 : Int), ()) = (check x.fst, ()))) (((90 : Int), ()) = (check x.fst, ()))) (((90 : Int), ()) = (check x.fst, ())))) (((90 : Int), ()) = (check x.fst, ()))) (Wr (IdxI
  (notB fateOk) x.fst.snd.fst (IntKind.wrap IntKind.i64 (x_3 + (1 : Int)))) ∧ Wr (List.length x.fst.snd.fst - Int.toNat (IntKind.wrap IntKind.i64 (x_3 + (1 : Int))) < List.length x.fst.snd.fst - Int.toNat x_3) ∧ Wr
  (IntKind.wrap IntKind.i64 (x_3 + (1 : Int)) = IntKind.wrap IntKind.i64 (x_3 + (1 : Int))) ∧ Wr (x.fst.snd.fst = x.fst.snd.fst) ∧ Wr (x.fst.snd.fst = x.fst.snd.fst) ∧ Wr ((↑(List.length x.fst.snd.fst) : Int) =
  (↑(List.length x.fst.snd.fst) : Int)) ∧ Wr (x_2.snd.fst ≤ x_2.snd.fst) ∧ Wr (x_2.snd.snd = x_2.snd.snd) ∧ Wr (x.fst.fst = x.fst.fst) ∧ Wr (x.fst.snd.fst = x.fst.snd.fst) ∧ Wr (x.fst.snd.snd.fst = x.fst.snd.snd.fst) ∧ Wr
  (x.fst.snd.snd.snd.fst = x.fst.snd.snd.snd.fst))) ((Wr (UnlI adOf x.fst.snd.fst (0 : Int) (0 : Nat) fun (x : Int × (Int × Int × Int × Int × Int × Int × Int × Int × Unit) × Int × Unit) => noneO Int) ∧ Wr ((0 : Int) = (0
  : Int)) ∧ Wr (x.fst.snd.fst = x.fst.snd.fst) ∧ Wr (x.fst.snd.fst = x.fst.snd.fst) ∧ Wr ((↑(List.length x.fst.snd.fst) : Int) = (↑(List.length x.fst.snd.fst) : Int)) ∧ Wr ((0 : Nat) ≤ (0 : Nat)) ∧ Wr ((fun (x : Int ×
  (Int × Int × Int × Int × Int × Int × Int × Int × Unit) × Int × Unit) => noneO Int) = fun (x : Int × (Int × Int × Int × Int × Int × Int × Int × Int × Unit) × Int × Unit) => noneO Int) ∧ Wr (x_2.snd.fst ≤ x_2.snd.fst) ∧
  Wr (x_2.snd.snd = x_2.snd.snd) ∧ Wr (x.fst.fst = x.fst.fst) ∧ Wr (x.fst.snd.fst = x.fst.snd.fst) ∧ Wr (x.fst.snd.snd.fst = x.fst.snd.snd.fst) ∧ Wr (x.fst.snd.snd.snd.fst = x.fst.snd.snd.snd.fst)) ∧ ∀ (x_4 : Int × Nat ×
  (Int × (Int × Int × Int × Int × Int × Int × Int × Int × Unit) × Int × Unit → Option Int)), Wr (UnlI adOf x.fst.snd.fst x_4.fst x_4.snd.fst x_4.snd.snd) → bcase (Decidable.decide (x_4.fst < (↑(List.length x.fst.snd.fst)
  : Int))) (Wr ((0 : Int) ≤ x_4.fst) ∧ Wr (x_4.fst < (↑(List.length x.fst.snd.fst) : Int)) ∧ Wr (Bool.true = Bool.true) ∧ Wr (x_4.snd.fst < Go.maxLen) ∧ bcase (Decidable.decide (Option.getD (updF AdT I64 x_4.snd.snd
  (List.getD x.fst.snd.fst (Int.toNat x_4.fst) (Ty.zero FatT)).fst (IntKind.wrap IntKind.i64 (Option.getD (x_4.snd.snd (List.getD x.fst.snd.fst (Int.toNat x_4.fst) (Ty.zero FatT)).fst) (0 : Int) + (1 : Int))) (List.getD
  x.fst.snd.fst (Int.toNat x_4.fst) (Ty.zero FatT)).fst) (0 : Int) > (1 : Int))) (((90 : Int), ()) = (check x.fst, ())) (Wr (UnlI adOf x.fst.snd.fst (IntKind.wrap IntKind.i64 (x_4.fst + (1 : Int))) (x_4.snd.fst + (1 :
  Nat)) (updF AdT I64 x_4.snd.snd (List.getD x.fst.snd.fst (Int.toNat x_4.fst) (Ty.zero FatT)).fst (IntKind.wrap IntKind.i64 (Option.getD (x_4.snd.snd (List.getD x.fst.snd.fst (Int.toNat x_4.fst) (Ty.zero FatT)).fst) (0 :
  Int) + (1 : Int))))) ∧ Wr (List.length x.fst.snd.fst - Int.toNat (IntKind.wrap IntKind.i64 (x_4.fst + (1 : Int))) < List.length x.fst.snd.fst - Int.toNat x_4.fst) ∧ Wr (IntKind.wrap IntKind.i64 (x_4.fst + (1 : Int)) =
  IntKind.wrap IntKind.i64 (x_4.fst + (1 : Int))) ∧ Wr (x.fst.snd.fst = x.fst.snd.fst) ∧ Wr (x.fst.snd.fst = x.fst.snd.fst) ∧ Wr ((↑(List.length x.fst.snd.fst) : Int) = (↑(List.length x.fst.snd.fst) : Int)) ∧ Wr
  (x_4.snd.fst + (1 : Nat) ≤ x_4.snd.fst + (1 : Nat)) ∧ Wr (updF AdT I64 x_4.snd.snd (List.getD x.fst.snd.fst (Int.toNat x_4.fst) (Ty.zero FatT)).fst (IntKind.wrap IntKind.i64 (Option.getD (x_4.snd.snd (List.getD
  x.fst.snd.fst (Int.toNat x_4.fst) (Ty.zero FatT)).fst) (0 : Int) + (1 : Int))) = updF AdT I64 x_4.snd.snd (List.getD x.fst.snd.fst (Int.toNat x_4.fst) (Ty.zero FatT)).fst (IntKind.wrap IntKind.i64 (Option.getD
  (x_4.snd.snd (List.getD x.fst.snd.fst (Int.toNat x_4.fst) (Ty.zero FatT)).fst) (0 : Int) + (1 : Int)))) ∧ Wr (x_2.snd.fst ≤ x_2.snd.fst) ∧ Wr (x_2.snd.snd = x_2.snd.snd) ∧ Wr (x.fst.fst = x.fst.fst) ∧ Wr (x.fst.snd.fst
  = x.fst.snd.fst) ∧ Wr (x.fst.snd.snd.fst = x.fst.snd.snd.fst) ∧ Wr (x.fst.snd.snd.snd.fst = x.fst.snd.snd.snd.fst))) (bcase (Bool.true && Bool.true && Decidable.decide (x.fst.snd.snd.fst ≥ (0 : Int)) && Decidable.decide
  (x.fst.snd.snd.fst ≤ (200 : Int))) (bcase (Decidable.decide ((↑(List.length x.fst.snd.snd.snd.fst) : Int) ≥ (0 : Int)) && Decidable.decide ((↑(List.length x.fst.snd.snd.snd.fst) : Int) ≤ (16 : Int))) ((Wr (IdxI (notB
  dropOk) x.fst.snd.snd.snd.fst (0 : Int)) ∧ Wr ((0 : Int) = (0 : Int)) ∧ Wr (x.fst.snd.snd.snd.fst = x.fst.snd.snd.snd.fst) ∧ Wr (x.fst.snd.snd.snd.fst = x.fst.snd.snd.snd.fst) ∧ Wr ((↑(List.length x.fst.snd.snd.snd.fst)
  : Int) = (↑(List.length x.fst.snd.snd.snd.fst) : Int)) ∧ Wr (x_4.snd.fst ≤ x_4.snd.fst) ∧ Wr (x_4.snd.snd = x_4.snd.snd) ∧ Wr (x_2.snd.fst ≤ x_2.snd.fst) ∧ Wr (x_2.snd.snd = x_2.snd.snd) ∧ Wr (x.fst.fst = x.fst.fst) ∧
  Wr (x.fst.snd.fst = x.fst.snd.fst) ∧ Wr (x.fst.snd.snd.fst = x.fst.snd.snd.fst) ∧ Wr (x.fst.snd.snd.snd.fst = x.fst.snd.snd.snd.fst)) ∧ ∀ (x_5 : Int), Wr (IdxI (notB dropOk) x.fst.snd.snd.snd.fst x_5) → bcase
  (Decidable.decide (x_5 < (↑(List.length x.fst.snd.snd.snd.fst) : Int))) (Wr ((0 : Int) ≤ x_5) ∧ Wr (x_5 < (↑(List.length x.fst.snd.snd.snd.fst) : Int)) ∧ Wr (Bool.true = Bool.true) ∧ Wr (Bool.true = Bool.true) ∧ bcase
  (!dropOk (List.getD x.fst.snd.snd.snd.fst (Int.toNat x_5) (0 : Int))) (bcase (Bool.true && (Bool.true && !Decidable.decide (x_5 ≥ (0 : Int)))) (((0 : Int), ()) = (check x.fst, ())) (((90 : Int), ()) = (check x.fst,
  ()))) (Wr (IdxI (notB dropOk) x.fst.snd.snd.snd.fst (IntKind.wrap IntKind.i64 (x_5 + (1 : Int)))) ∧ Wr (List.length x.fst.snd.snd.snd.fst - Int.toNat (IntKind.wrap IntKind.i64 (x_5 + (1 : Int))) < List.length
  x.fst.snd.snd.snd.fst - Int.toNat x_5) ∧ Wr (IntKind.wrap IntKind.i64 (x_5 + (1 : Int)) = IntKind.wrap IntKind.i64 (x_5 + (1 : Int))) ∧ Wr (x.fst.snd.snd.snd.fst = x.fst.snd.snd.snd.fst) ∧ Wr (x.fst.snd.snd.snd.fst =
  x.fst.snd.snd.snd.fst) ∧ Wr ((↑(List.length x.fst.snd.snd.snd.fst) : Int) = (↑(List.length x.fst.snd.snd.snd.fst) : Int)) ∧ Wr (x_4.snd.fst ≤ x_4.snd.fst) ∧ Wr (x_4.snd.snd = x_4.snd.snd) ∧ Wr (x_2.snd.fst ≤
  x_2.snd.fst) ∧ Wr (x_2.snd.snd = x_2.snd.snd) ∧ Wr (x.fst.fst = x.fst.fst) ∧ Wr (x.fst.snd.fst = x.fst.snd.fst) ∧ Wr (x.fst.snd.snd.fst = x.fst.snd.snd.fst) ∧ Wr (x.fst.snd.snd.snd.fst = x.fst.snd.snd.snd.fst))) (((0 :
  Int), ()) = (check x.fst, ()))) (((90 : Int), ()) = (check x.fst, ()))) (((90 : Int), ()) = (check x.fst, ()))))) (((90 : Int), ()) = (check x.fst, ()))))) (((90 : Int), ()) = (check x.fst, ()))) := by kernel_rfl
theorem v27_eq : vcFn g27 300 Tryz.f27 cFate = ( ∀ (x : (List (ByteArray × List (List (Int × (Int × Int × Int × Int × Int × Int × Int × Int × Unit) × Int × Unit)) × Unit) × List ((Int × (Int × Int × Int × Int × Int × Int × Int × Int × Unit) × Int × Unit) × List Int ×
  Unit) × Int × List Int × Unit) × (Int × (Int × Int × Int × Int × Int × Int × Int × Int × Unit) × Int × Unit) × Int × Unit), Wr (okP x.fst = Bool.true) → (Wr (IdxI (adIs x.snd.fst) x.fst.snd.fst (0 : Int)) ∧ Wr ((0 :
  Int) = (0 : Int)) ∧ Wr (x.fst.snd.fst = x.fst.snd.fst) ∧ Wr (x.fst.snd.fst = x.fst.snd.fst) ∧ Wr ((↑(List.length x.fst.snd.fst) : Int) = (↑(List.length x.fst.snd.fst) : Int)) ∧ Wr (x.snd.fst.fst = x.snd.fst.fst) ∧ Wr
  (x.snd.fst.snd.fst.fst = x.snd.fst.snd.fst.fst) ∧ Wr (x.snd.fst.snd.fst.snd.fst = x.snd.fst.snd.fst.snd.fst) ∧ Wr (x.snd.fst.snd.fst.snd.snd.fst = x.snd.fst.snd.fst.snd.snd.fst) ∧ Wr (x.snd.fst.snd.fst.snd.snd.snd.fst =
  x.snd.fst.snd.fst.snd.snd.snd.fst) ∧ Wr (x.snd.fst.snd.fst.snd.snd.snd.snd.fst = x.snd.fst.snd.fst.snd.snd.snd.snd.fst) ∧ Wr (x.snd.fst.snd.fst.snd.snd.snd.snd.snd.fst = x.snd.fst.snd.fst.snd.snd.snd.snd.snd.fst) ∧ Wr
  (x.snd.fst.snd.fst.snd.snd.snd.snd.snd.snd.fst = x.snd.fst.snd.fst.snd.snd.snd.snd.snd.snd.fst) ∧ Wr (x.snd.fst.snd.fst.snd.snd.snd.snd.snd.snd.snd.fst = x.snd.fst.snd.fst.snd.snd.snd.snd.snd.snd.snd.fst) ∧ Wr
  (x.snd.fst.snd.snd.fst = x.snd.fst.snd.snd.fst) ∧ Wr (x.fst.fst = x.fst.fst) ∧ Wr (x.fst.snd.fst = x.fst.snd.fst) ∧ Wr (x.fst.snd.snd.fst = x.fst.snd.snd.fst) ∧ Wr (x.fst.snd.snd.snd.fst = x.fst.snd.snd.snd.fst) ∧ Wr
  (x.snd.fst.fst = x.snd.fst.fst) ∧ Wr (x.snd.fst.snd.fst.fst = x.snd.fst.snd.fst.fst) ∧ Wr (x.snd.fst.snd.fst.snd.fst = x.snd.fst.snd.fst.snd.fst) ∧ Wr (x.snd.fst.snd.fst.snd.snd.fst = x.snd.fst.snd.fst.snd.snd.fst) ∧ Wr
  (x.snd.fst.snd.fst.snd.snd.snd.fst = x.snd.fst.snd.fst.snd.snd.snd.fst) ∧ Wr (x.snd.fst.snd.fst.snd.snd.snd.snd.fst = x.snd.fst.snd.fst.snd.snd.snd.snd.fst) ∧ Wr (x.snd.fst.snd.fst.snd.snd.snd.snd.snd.fst =
  x.snd.fst.snd.fst.snd.snd.snd.snd.snd.fst) ∧ Wr (x.snd.fst.snd.fst.snd.snd.snd.snd.snd.snd.fst = x.snd.fst.snd.fst.snd.snd.snd.snd.snd.snd.fst) ∧ Wr (x.snd.fst.snd.fst.snd.snd.snd.snd.snd.snd.snd.fst =
  x.snd.fst.snd.fst.snd.snd.snd.snd.snd.snd.snd.fst) ∧ Wr (x.snd.fst.snd.snd.fst = x.snd.fst.snd.snd.fst) ∧ Wr (x.fst.fst = x.fst.fst) ∧ Wr (x.fst.snd.fst = x.fst.snd.fst) ∧ Wr (x.fst.snd.snd.fst = x.fst.snd.snd.fst) ∧ Wr
  (x.fst.snd.snd.snd.fst = x.fst.snd.snd.snd.fst)) ∧ ∀ (x_1 : Int), Wr (IdxI (adIs x.snd.fst) x.fst.snd.fst x_1) → bcase (Decidable.decide (x_1 < (↑(List.length x.fst.snd.fst) : Int))) (Wr ((0 : Int) ≤ x_1) ∧ Wr (x_1 <
  (↑(List.length x.fst.snd.fst) : Int)) ∧ Wr (Bool.true = Bool.true) ∧ bcase (Ty.eqb (Ty.cons (Ty.int IntKind.i8) (Ty.cons (Ty.arr (8 : Nat) (Ty.int IntKind.u16)) (Ty.cons (Ty.int IntKind.i64) Ty.unit))) (List.getD
  x.fst.snd.fst (Int.toNat x_1) (Ty.zero FatT)).fst x.snd.fst) (bcase (Decidable.decide (x_1 < (0 : Int))) (((1 : Int), ()) = (fateF x.fst x.snd.fst x.snd.snd.fst, ())) (Wr ((0 : Int) ≤ x_1) ∧ Wr (x_1 < (↑(List.length
  x.fst.snd.fst) : Int)) ∧ Wr (Bool.true = Bool.true) ∧ Wr (Bool.true = Bool.true) ∧ bcase (Decidable.decide ((↑(List.length (List.getD x.fst.snd.fst (Int.toNat x_1) (Ty.zero FatT)).snd.fst) : Int) = (0 : Int))) (((1 :
  Int), ()) = (fateF x.fst x.snd.fst x.snd.snd.fst, ())) (Wr ((0 : Int) ≤ Min.min (Max.max x.snd.snd.fst (0 : Int)) (IntKind.wrap IntKind.i64 ((↑(List.length (List.getD x.fst.snd.fst (Int.toNat x_1) (Ty.zero
  FatT)).snd.fst) : Int) - (1 : Int)))) ∧ Wr (Min.min (Max.max x.snd.snd.fst (0 : Int)) (IntKind.wrap IntKind.i64 ((↑(List.length (List.getD x.fst.snd.fst (Int.toNat x_1) (Ty.zero FatT)).snd.fst) : Int) - (1 : Int))) <
  (↑(List.length (List.getD x.fst.snd.fst (Int.toNat x_1) (Ty.zero FatT)).snd.fst) : Int)) ∧ Wr (Bool.true = Bool.true) ∧ (List.getD (List.getD x.fst.snd.fst (Int.toNat x_1) (Ty.zero FatT)).snd.fst (Int.toNat (Min.min
  (Max.max x.snd.snd.fst (0 : Int)) (IntKind.wrap IntKind.i64 ((↑(List.length (List.getD x.fst.snd.fst (Int.toNat x_1) (Ty.zero FatT)).snd.fst) : Int) - (1 : Int))))) (0 : Int), ()) = (fateF x.fst x.snd.fst x.snd.snd.fst,
  ())))) (Wr (IdxI (adIs x.snd.fst) x.fst.snd.fst (IntKind.wrap IntKind.i64 (x_1 + (1 : Int)))) ∧ Wr (List.length x.fst.snd.fst - Int.toNat (IntKind.wrap IntKind.i64 (x_1 + (1 : Int))) < List.length x.fst.snd.fst -
  Int.toNat x_1) ∧ Wr (IntKind.wrap IntKind.i64 (x_1 + (1 : Int)) = IntKind.wrap IntKind.i64 (x_1 + (1 : Int))) ∧ Wr (x.fst.snd.fst = x.fst.snd.fst) ∧ Wr (x.fst.snd.fst = x.fst.snd.fst) ∧ Wr ((↑(List.length x.fst.snd.fst)
  : Int) = (↑(List.length x.fst.snd.fst) : Int)) ∧ Wr (x.snd.fst.fst = x.snd.fst.fst) ∧ Wr (x.snd.fst.snd.fst.fst = x.snd.fst.snd.fst.fst) ∧ Wr (x.snd.fst.snd.fst.snd.fst = x.snd.fst.snd.fst.snd.fst) ∧ Wr
  (x.snd.fst.snd.fst.snd.snd.fst = x.snd.fst.snd.fst.snd.snd.fst) ∧ Wr (x.snd.fst.snd.fst.snd.snd.snd.fst = x.snd.fst.snd.fst.snd.snd.snd.fst) ∧ Wr (x.snd.fst.snd.fst.snd.snd.snd.snd.fst =
  x.snd.fst.snd.fst.snd.snd.snd.snd.fst) ∧ Wr (x.snd.fst.snd.fst.snd.snd.snd.snd.snd.fst = x.snd.fst.snd.fst.snd.snd.snd.snd.snd.fst) ∧ Wr (x.snd.fst.snd.fst.snd.snd.snd.snd.snd.snd.fst =
  x.snd.fst.snd.fst.snd.snd.snd.snd.snd.snd.fst) ∧ Wr (x.snd.fst.snd.fst.snd.snd.snd.snd.snd.snd.snd.fst = x.snd.fst.snd.fst.snd.snd.snd.snd.snd.snd.snd.fst) ∧ Wr (x.snd.fst.snd.snd.fst = x.snd.fst.snd.snd.fst) ∧ Wr
  (x.fst.fst = x.fst.fst) ∧ Wr (x.fst.snd.fst = x.fst.snd.fst) ∧ Wr (x.fst.snd.snd.fst = x.fst.snd.snd.fst) ∧ Wr (x.fst.snd.snd.snd.fst = x.fst.snd.snd.snd.fst) ∧ Wr (x.snd.fst.fst = x.snd.fst.fst) ∧ Wr
  (x.snd.fst.snd.fst.fst = x.snd.fst.snd.fst.fst) ∧ Wr (x.snd.fst.snd.fst.snd.fst = x.snd.fst.snd.fst.snd.fst) ∧ Wr (x.snd.fst.snd.fst.snd.snd.fst = x.snd.fst.snd.fst.snd.snd.fst) ∧ Wr (x.snd.fst.snd.fst.snd.snd.snd.fst =
  x.snd.fst.snd.fst.snd.snd.snd.fst) ∧ Wr (x.snd.fst.snd.fst.snd.snd.snd.snd.fst = x.snd.fst.snd.fst.snd.snd.snd.snd.fst) ∧ Wr (x.snd.fst.snd.fst.snd.snd.snd.snd.snd.fst = x.snd.fst.snd.fst.snd.snd.snd.snd.snd.fst) ∧ Wr
  (x.snd.fst.snd.fst.snd.snd.snd.snd.snd.snd.fst = x.snd.fst.snd.fst.snd.snd.snd.snd.snd.snd.fst) ∧ Wr (x.snd.fst.snd.fst.snd.snd.snd.snd.snd.snd.snd.fst = x.snd.fst.snd.fst.snd.snd.snd.snd.snd.snd.snd.fst) ∧ Wr
  (x.snd.fst.snd.snd.fst = x.snd.fst.snd.snd.fst) ∧ Wr (x.fst.fst = x.fst.fst) ∧ Wr (x.fst.snd.fst = x.fst.snd.fst) ∧ Wr (x.fst.snd.snd.fst = x.fst.snd.snd.fst) ∧ Wr (x.fst.snd.snd.snd.fst = x.fst.snd.snd.snd.fst))) (((1
  : Int), ()) = (fateF x.fst x.snd.fst x.snd.snd.fst, ()))) := by kernel_rfl
end Go.Proofs.YtfhlceooobabcaaGreatDoor.Wd
set_option linter.all false
namespace Go.Proofs.YtfhlceooobabcaaGreatDoor.Wd
open Go Go.Eng Go.Lb Go.Ad
set_option maxRecDepth 100000
set_option maxHeartbeats 2000000

theorem IdxI.zero {α : Type} (p : α → Bool) (l : List α) : IdxI p l 0 := ⟨by omega, by omega, rfl⟩
theorem IdxI.on {α : Type} {p : α → Bool} {l : List α} {i : Int} (z : α) (hl : l.length ≤ 5000000000) (hi : IdxI p l i) (h : i < l.length) (hq : p (l.getD i.toNat z) = false) :
    IdxI p l (IntKind.wrap .i64 (i + 1)) ∧ l.length - (IntKind.wrap .i64 (i + 1)).toNat < l.length - i.toNat := by
  have h0 := hi.i0
  rw [w64 (by omega) (by omega)]
  refine ⟨⟨by omega, by omega, ?_⟩, by omega⟩
  rw [take_succ l i z h0 h, List.any_append, hi.a, List.any_cons, List.any_nil, hq]
  rfl
theorem IdxI.hit {α : Type} {p : α → Bool} {l : List α} {i : Int} {z : α} (hi : IdxI p l i) (h : i < l.length) (hq : p (l.getD i.toNat z) = true) : l.any p = true :=
  List.any_eq_true.2 ⟨_, getD_memA (z := z) hi.i0 h, hq⟩
theorem IdxI.fin {α : Type} {p : α → Bool} {l : List α} {i : Int} (hi : IdxI p l i) (h : ¬ i < l.length) : l.any p = false := by
  have := hi.a
  rwa [take_all hi.i1 h] at this
theorem any_notB {α : Type} (p : α → Bool) (l : List α) : l.any (notB p) = !l.all p := by
  induction l with
  | nil => rfl
  | cons a l ih => simp only [List.any_cons, List.all_cons, ih, notB, Bool.not_and]
/-- found, one that is not so -/
theorem IdxI.bad {α : Type} {p : α → Bool} {l : List α} {i : Int} {z : α} (hi : IdxI (notB p) l i) (h : i < l.length) (hq : p (l.getD i.toNat z) = false) : l.all p = false := by
  have := hi.hit (z := z) h (by rw [notB, hq]; rfl)
  rw [any_notB] at this
  simpa using this
theorem IdxI.good {α : Type} {p : α → Bool} {l : List α} {i : Int} (hi : IdxI (notB p) l i) (h : ¬ i < l.length) : l.all p = true := by
  have := hi.fin h
  rw [any_notB] at this
  simpa using this
theorem IdxI.onN {α : Type} {p : α → Bool} {l : List α} {i : Int} (z : α) (hl : l.length ≤ 5000000000) (hi : IdxI (notB p) l i) (h : i < l.length) (hq : p (l.getD i.toNat z) = true) :
    IdxI (notB p) l (IntKind.wrap .i64 (i + 1)) ∧ l.length - (IntKind.wrap .i64 (i + 1)).toNat < l.length - i.toNat := hi.on z hl h (by rw [notB, hq]; rfl)

/-! no two the same -/
theorem UnlI.zero {α κ : Type} [DecidableEq κ] (k : α → κ) (l : List α) : UnlI k l 0 0 (fun _ => none) := ⟨by omega, by omega, rfl, fun _ => rfl, List.nodup_nil⟩
theorem UnlI.get {α κ : Type} [DecidableEq κ] {k : α → κ} {l : List α} {i : Int} {n : Nat} {f : κ → Option Int} (h : UnlI k l i n f) (x : κ) : (f x).getD 0 = bif decide (x ∈ (l.take i.toNat).map k) then 1 else 0 := by
  rw [h.f x]
  cases decide (x ∈ (l.take i.toNat).map k) <;> rfl
/-- one that was there -/
theorem UnlI.twice {α κ : Type} [DecidableEq κ] {k : α → κ} {l : List α} {i : Int} {n : Nat} {f : κ → Option Int} {z : α} (h : UnlI k l i n f) (hi : i < l.length) (hk : k (l.getD i.toNat z) ∈ (l.take i.toNat).map k) : ¬ (l.map k).Nodup := by
  intro hn
  have e : (l.take (i + 1).toNat).map k = (l.take i.toNat).map k ++ [k (l.getD i.toNat z)] := by rw [take_succ l i z h.i0 hi]; simp
  have hs : ((l.take (i + 1).toNat).map k).Nodup := by
    exact ((List.take_sublist _ _).map k).nodup hn
  rw [e] at hs
  exact (List.nodup_append.1 hs).2.2 _ hk _ (List.mem_singleton.2 rfl) rfl
theorem UnlI.on {α κ : Type} [DecidableEq κ] {k : α → κ} {l : List α} {i : Int} {n : Nat} {f f' : κ → Option Int} {z : α} (h : UnlI k l i n f) (hl : l.length ≤ 5000000000) (hi : i < l.length) (hk : ¬ k (l.getD i.toNat z) ∈ (l.take i.toNat).map k)
    (hf : ∀ x, f' x = if x = k (l.getD i.toNat z) then some 1 else f x) : UnlI k l (IntKind.wrap .i64 (i + 1)) (n + 1) f' ∧ l.length - (IntKind.wrap .i64 (i + 1)).toNat < l.length - i.toNat := by
  have h0 := h.i0
  have hn := h.n
  rw [w64 (by omega) (by omega)]
  have e : (l.take (i + 1).toNat).map k = (l.take i.toNat).map k ++ [k (l.getD i.toNat z)] := by rw [take_succ l i z h0 hi]; simp
  refine ⟨⟨by omega, by omega, by omega, fun x => ?_, ?_⟩, by omega⟩
  · rw [hf x, e]
    by_cases hx : x = k (l.getD i.toNat z)
    · rw [if_pos hx]; simp [hx]
    · rw [if_neg hx, h.f x]; congr 1; rw [decide_eq_decide]; simp only [List.mem_append, List.mem_singleton]; exact ⟨.inl, fun o => o.resolve_right hx⟩
  · rw [e]
    refine List.nodup_append.2 ⟨h.d, by simp, fun a ha b hb => ?_⟩
    simp only [List.mem_singleton] at hb
    subst hb
    exact fun e => hk (e ▸ ha)
theorem UnlI.fin {α κ : Type} [DecidableEq κ] {k : α → κ} {l : List α} {i : Int} {n : Nat} {f : κ → Option Int} (h : UnlI k l i n f) (hi : ¬ i < l.length) : (l.map k).Nodup := by
  have := h.d
  rwa [take_all h.i1 hi] at this
theorem UnlI.room {α κ : Type} [DecidableEq κ] {k : α → κ} {l : List α} {i : Int} {n : Nat} {f : κ → Option Int} (h : UnlI k l i n f) (hi : i < l.length) (hl : l.length ≤ 5000000000) : n < maxLen := by
  have := h.n; have := h.i0; unfold maxLen; omega
/-- what counting up comes to -/
theorem updF_same {kt : Ty} (hk : keyable kt = true) (f : kt.El → Option Int) (x : kt.El) (y : Int) : ((updF kt I64 f x y) x).getD 0 = y := by
  unfold updF
  rw [(eqb_iff kt hk x x).2 rfl]
  rfl
theorem updF_if {kt : Ty} [DecidableEq kt.El] (hk : keyable kt = true) (f : kt.El → Option Int) (x : kt.El) (y : Int) (u : kt.El) : (updF kt I64 f x y) u = if u = x then some y else f u := by
  unfold updF
  by_cases h : u = x
  · rw [(eqb_iff kt hk u x).2 h, if_pos h]; rfl
  · rw [if_neg h]
    have : kt.eqb u x = false := by
      cases e : kt.eqb u x with
      | false => rfl
      | true => exact absurd ((eqb_iff kt hk u x).1 e) h
    rw [this]; rfl
/-- a round of 'unlike' -/
theorem UnlI.step {α : Type} {kt : Ty} [DecidableEq kt.El] (hk : keyable kt = true) {k : α → kt.El} {l : List α} {i : Int} {n : Nat} {f : kt.El → Option Int} {z : α} (h : UnlI k l i n f) (hl : l.length ≤ 5000000000) (hi : i < l.length) {y : kt.El} (hy : y = k (l.getD i.toNat z)) :
    (((updF kt I64 f y (IntKind.wrap .i64 ((f y).getD 0 + 1))) y).getD 0 > 1 → ¬ (l.map k).Nodup) ∧ (¬ ((updF kt I64 f y (IntKind.wrap .i64 ((f y).getD 0 + 1))) y).getD 0 > 1 →
      UnlI k l (IntKind.wrap .i64 (i + 1)) (n + 1) (updF kt I64 f y (IntKind.wrap .i64 ((f y).getD 0 + 1))) ∧ l.length - (IntKind.wrap .i64 (i + 1)).toNat < l.length - i.toNat) := by
  have hg := h.get y
  have h1 : IntKind.wrap .i64 (1 + 1) = 2 := by decide
  have h2 : IntKind.wrap .i64 (0 + 1) = 1 := by decide
  rw [updF_same hk, hg]
  by_cases hm : y ∈ (l.take i.toNat).map k
  · rw [decide_eq_true hm]
    simp only [cond_true, h1]
    exact ⟨fun _ => h.twice (z := z) hi (hy ▸ hm), fun hn => absurd (show (2 : Int) > 1 by decide) hn⟩
  · rw [decide_eq_false hm]
    simp only [cond_false, h2]
    refine ⟨fun hn => absurd hn (show ¬ (1 : Int) > 1 by decide), fun _ => h.on (z := z) hl hi (hy ▸ hm) fun x => ?_⟩
    rw [updF_if hk, hy]

instance : DecidableEq AdT.El := dA
theorem kAd : keyable AdT = true := by decide
theorem pr {b c : Bool} (h : b = c) : (b, ()) = (c, ()) := by rw [h]
theorem v117 : Vc g117 300 Tryz.f117 cRowOk := by
  constructor
  rw [v117_eq]
  simp only [Wr_iff, bcase_iff, true_and, and_true, decide_eq_true_eq, decide_eq_false_iff_not, Bool.and_eq_true, Bool.and_eq_false_iff, Bool.or_eq_true, Bool.or_eq_false_iff, Bool.not_eq_true', Bool.not_eq_false', Option.map_some, Option.getD_some, Option.isSome_some, Option.isSome_map, imp_self, nilL, noneO]
  intro x _
  generalize x.fst = l
  refine ⟨fun h => (lenA_iff l).2 (by omega), fun h => ⟨⟨UnlI.zero _ _, Nat.le_refl _⟩, fun ⟨i, n, f⟩ hu => ⟨fun hi => ?_, fun hi => ?_⟩⟩, fun h => ?_⟩
  · have hl : List.length l ≤ 5000000000 := by have := h.1; omega
    obtain ⟨h1, h2⟩ := UnlI.step (α := Ad) (kt := AdT) kAd hu hl hi (z := Ty.zero AdT) rfl
    refine ⟨hu.i0, hi, hu.room hi hl, fun hg => ?_, fun hg => ?_⟩
    · have h3 : ¬ List.Nodup (α := Ad) l := fun hn => h1 hg ((congrArg List.Nodup (List.map_id' (α := Ad) l)).mpr hn)
      refine pr ?_
      simp [rowOk, h3]
    · exact ⟨(h2 hg).1, (h2 hg).2, Nat.le_refl _⟩
  · have h3 : List.Nodup (α := Ad) l := (congrArg List.Nodup (List.map_id' (α := Ad) l)).mp (hu.fin hi)
    refine pr ?_
    simp only [rowOk, decide_eq_true h3, h.2, Bool.and_true, Bool.true_and]
    exact (decide_eq_true (by have := h.1; omega)).symm
  · refine pr ?_
    simp only [rowOk]
    rcases h with h | h
    · simp [show ¬ l.length ≤ 16 by omega]
    · simp [h]
theorem zone_iff (z : Zn) : zoneOk z = true ↔ (fold2 z.1 = 0 ∧ fold1 z.1 = z.1) ∧ (1 ≤ z.2.1.length ∧ z.2.1.length ≤ 32) ∧ z.2.1.all rowOk = true := by
  simp only [zoneOk, Bool.and_eq_true, decide_eq_true_eq, fold2_iff]
  constructor
  · rintro ⟨h, h1, h2, h3⟩; exact ⟨h, ⟨h1, h2⟩, h3⟩
  · rintro ⟨h, ⟨h1, h2⟩, h3⟩; exact ⟨h, h1, h2, h3⟩
theorem no_of {b : Bool} {p : Prop} (h : b = true ↔ p) (hp : ¬ p) : b = false := by
  cases hb : b with
  | false => rfl
  | true => exact absurd (h.1 hb) hp
theorem v79 : Vc g79 300 Tryz.f79 cZone := by
  constructor
  rw [v79_eq]
  simp only [Wr_iff, bcase_iff, true_and, and_true, decide_eq_true_eq, decide_eq_false_iff_not, Bool.and_eq_true, Bool.and_eq_false_iff, Bool.or_eq_true, Bool.or_eq_false_iff, Bool.not_eq_true', Bool.not_eq_false', Option.map_some, Option.getD_some, Option.isSome_some, Option.isSome_map, imp_self, nilL, noneO]
  intro x _
  generalize x.fst = z
  refine ⟨fun h => ⟨fun hl => ⟨IdxI.zero _ _, fun i hu => ⟨fun hi => ⟨hu.i0, hi, fun hg => ?_, fun hg => ?_⟩, fun hi => ?_⟩⟩, fun hl => ?_⟩, fun h => ?_⟩
  · refine pr ?_
    rw [no_of (zone_iff z) (fun hz => by rw [hu.bad hi hg] at hz; cases hz.2.2)]
    simp only [Bool.true_and, Bool.not_eq_false', decide_eq_true_eq]
    exact hu.i0
  · exact hu.onN _ (by have := hl.2; omega) hi hg
  · refine pr ?_
    rw [(zone_iff z).2 ⟨h, by have := hl.1; have := hl.2; omega, hu.good hi⟩]
    rfl
  · refine pr ?_
    rw [no_of (zone_iff z) (fun hz => by have := hz.2.1; omega)]
    rfl
  · refine pr ?_
    rw [no_of (zone_iff z) (fun hz => by
      rcases h with h | h
      · exact h hz.1.1
      · exact h hz.1.2)]
    rfl
theorem fate_iff (f : Ft) : fateOk f = true ↔ may1 f.1 = true ∧ (1 ≤ f.2.1.length ∧ f.2.1.length ≤ 32) ∧ f.2.1.all fateIn = true := by
  simp only [fateOk, Bool.and_eq_true, decide_eq_true_eq]
  constructor
  · rintro ⟨h, h1, h2, h3⟩; exact ⟨h, ⟨h1, h2⟩, h3⟩
  · rintro ⟨h, ⟨h1, h2⟩, h3⟩; exact ⟨h, h1, h2, h3⟩
theorem may_one (a : Ad) : mayA [a] = may1 a := by simp [mayA]
theorem v81 : Vc g81 300 Tryz.f81 cFat := by
  constructor
  rw [v81_eq]
  simp only [Wr_iff, bcase_iff, true_and, and_true, decide_eq_true_eq, decide_eq_false_iff_not, Bool.and_eq_true, Bool.and_eq_false_iff, Bool.or_eq_true, Bool.or_eq_false_iff, Bool.not_eq_true', Bool.not_eq_false', Option.map_some, Option.getD_some, Option.isSome_some, Option.isSome_map, imp_self, nilL, noneO]
  intro x _
  generalize x.fst = z
  refine ⟨rfl, fun h => ⟨fun hl => ⟨IdxI.zero _ _, fun i hu => ⟨fun hi => ⟨hu.i0, hi, fun hg => ?_, fun hg => ?_⟩, fun hi => ?_⟩⟩, fun hl => ?_⟩, fun h => ?_⟩
  · refine pr ?_
    have hg' : fateIn (z.2.1.getD i.toNat 0) = false := by
      simp only [fateIn, Bool.and_eq_false_iff, decide_eq_false_iff_not]
      exact hg
    rw [no_of (fate_iff z) (fun hz => by rw [hu.bad hi hg'] at hz; cases hz.2.2)]
    simp only [Bool.true_and, Bool.not_eq_false', decide_eq_true_eq]
    exact hu.i0
  · have hg' : fateIn (z.2.1.getD i.toNat 0) = true := by
      simp only [fateIn, Bool.and_eq_true, decide_eq_true_eq]
      exact hg
    exact hu.onN 0 (by have := hl.2; omega) hi hg'
  · refine pr ?_
    rw [(fate_iff z).2 ⟨by rw [← may_one]; exact h, by have := hl.1; have := hl.2; omega, hu.good hi⟩]
    rfl
  · refine pr ?_
    rw [no_of (fate_iff z) (fun hz => by have := hz.2.1; omega)]
    rfl
  · refine pr ?_
    rw [no_of (fate_iff z) (fun hz => by have h2 := hz.1; rw [← may_one] at h2; exact absurd (h.symm.trans h2) (by decide))]
    rfl
theorem v82 : Vc g82 300 Tryz.f82 cDropOk := by
  constructor
  rw [v82_eq]
  intro x _
  exact pr rfl
end Go.Proofs.YtfhlceooobabcaaGreatDoor.Wd
set_option linter.all false
namespace Go.Proofs.YtfhlceooobabcaaGreatDoor.Wd
open Go Go.Eng Go.Lb Go.Ad
set_option maxRecDepth 100000
set_option maxHeartbeats 4000000

theorem split_at {α : Type} {l : List α} {i : Int} (z : α) (h0 : 0 ≤ i) (h : i < l.length) : l = l.take i.toNat ++ l.getD i.toNat z :: l.drop (i.toNat + 1) := by
  have h' : i.toNat < l.length := by omega
  rw [List.getD_eq_getElem?_getD, List.getElem?_eq_getElem h', Option.getD_some, ← List.drop_eq_getElem_cons h', List.take_append_drop]
theorem IdxI.find {α : Type} {p : α → Bool} {l : List α} {i : Int} (z : α) (hi : IdxI p l i) (h : i < l.length) (hq : p (l.getD i.toNat z) = true) : l.find? p = some (l.getD i.toNat z) := by
  have hs := split_at z hi.i0 h
  have hn : (l.take i.toNat).find? p = none := by
    rw [List.find?_eq_none]
    intro x hx hp
    have := hi.a
    rw [List.any_eq_false] at this
    exact this x hx hp
  generalize l.getD i.toNat z = y at hs hq ⊢
  rw [hs, List.find?_append, hn, List.find?_cons, hq]
  rfl
theorem IdxI.none {α : Type} {p : α → Bool} {l : List α} {i : Int} (hi : IdxI p l i) (h : ¬ i < l.length) : l.find? p = none := by
  rw [List.find?_eq_none]
  intro x hx hp
  have := hi.fin h
  rw [List.any_eq_false] at this
  exact this x hx hp
theorem okP_iff (p : Pl) : okP p = true ↔ p.2.1.length ≤ 1000000 ∧ ∀ f ∈ p.2.1, f.2.1.length ≤ 1000000 := by
  simp [okP, okF]
theorem minI (n : Int) {m : Int} (h : 1 ≤ m) : 0 ≤ min (max n 0) (m - 1) ∧ min (max n 0) (m - 1) < m := by omega
theorem fateRow_some {p : Pl} {a : Ad} {f : Ft} (h : p.2.1.find? (adIs a) = some f) : fateRow p a = f.2.1 := by unfold fateRow; rw [h]
theorem fateRow_none {p : Pl} {a : Ad} (h : p.2.1.find? (adIs a) = none) : fateRow p a = [] := by unfold fateRow; rw [h]
theorem fate_got {p : Pl} {a : Ad} {n : Int} {L : List Int} (hr : fateRow p a = L) (hm : L.length ≤ 1000000) (h : ¬ ((L.length : Int) = 0)) :
    0 ≤ min (max n 0) (IntKind.wrap .i64 ((L.length : Int) - 1)) ∧ min (max n 0) (IntKind.wrap .i64 ((L.length : Int) - 1)) < L.length ∧ (L.getD (min (max n 0) (IntKind.wrap .i64 ((L.length : Int) - 1))).toNat 0, ()) = (fateF p a n, ()) := by
  have hL : (1 : Int) ≤ L.length := by omega
  rw [w64 (by omega) (by omega)]
  obtain ⟨k1, k2⟩ := minI n hL
  refine ⟨k1, k2, ?_⟩
  rw [fateF, hr, fateAt, decide_eq_false (by omega)]
  rfl
theorem v27 : Vc g27 300 Tryz.f27 cFate := by
  constructor
  rw [v27_eq]
  simp only [Wr_iff, bcase_iff, true_and, and_true, decide_eq_true_eq, decide_eq_false_iff_not, Bool.and_eq_true, Bool.and_eq_false_iff, Bool.or_eq_true, Bool.or_eq_false_iff, Bool.not_eq_true', Bool.not_eq_false', Option.map_some, Option.getD_some, Option.isSome_some, Option.isSome_map, imp_self, nilL, noneO]
  intro x
  obtain ⟨p, a, n, ⟨⟩⟩ := x
  dsimp only
  intro hp
  obtain ⟨hp1, hp2⟩ := (okP_iff p).1 hp
  have nf : fateRow p a = [] → ((1 : Int), ()) = (fateF p a n, ()) := fun h => by rw [fateF, h]; rfl
  have hlen : p.2.1.length ≤ 5000000000 := by omega
  refine ⟨?_, fun i hu => ⟨fun hi => ?_, fun hi => ?_⟩⟩
  · exact IdxI.zero _ _
  · refine ⟨hu.i0, hi, fun hg => ⟨fun h => absurd h (by have := hu.i0; omega), fun _ => ?_⟩, fun hg => ?_⟩
    · have hg' : adIs a (p.2.1.getD i.toNat FatT.zero) = true := by
        simp only [adIs, decide_eq_true_eq]
        exact (eqA _ _).1 hg
      have hf := hu.find FatT.zero hi hg'
      have hm := hp2 _ (getD_memA (z := FatT.zero) hu.i0 hi)
      refine ⟨hu.i0, hi, fun h => nf ((fateRow_some hf).trans (List.length_eq_zero_iff.1 (Int.ofNat_eq_zero.1 h))), fun h => fate_got (fateRow_some hf) hm h⟩
    · have hg' : adIs a (p.2.1.getD i.toNat FatT.zero) = false := by
        simp only [adIs, decide_eq_false_iff_not]
        exact (eqA_f _ _).1 hg
      obtain ⟨k1, k2⟩ := hu.on FatT.zero hlen hi hg'
      exact ⟨k1, k2⟩
  · refine nf ?_
    exact fateRow_none (hu.none hi)

/-! a plan -/
theorem check_iff (p : Pl) : checkB p = true ↔ (p.1.length ≤ 8 ∧ p.1.all zoneOk = true) ∧ (p.1.map nameOf).Nodup ∧ (p.2.1.length ≤ 32 ∧ p.2.1.all fateOk = true) ∧ (p.2.1.map adOf).Nodup ∧ 0 ≤ p.2.2.1 ∧ p.2.2.1 ≤ 200 ∧ p.2.2.2.1.length ≤ 16 ∧ p.2.2.2.1.all dropOk = true := by
  simp only [checkB, unlN, unlF, Bool.and_eq_true, decide_eq_true_eq]
theorem chk_no {p : Pl} (h : ¬ ((p.1.length ≤ 8 ∧ p.1.all zoneOk = true) ∧ (p.1.map nameOf).Nodup ∧ (p.2.1.length ≤ 32 ∧ p.2.1.all fateOk = true) ∧ (p.2.1.map adOf).Nodup ∧ 0 ≤ p.2.2.1 ∧ p.2.2.1 ≤ 200 ∧ p.2.2.2.1.length ≤ 16 ∧ p.2.2.2.1.all dropOk = true)) : ((90 : Int), ()) = (check p, ()) := by
  rw [check, no_of (check_iff p) h]; rfl
instance : DecidableEq Ty.str.El := inferInstanceAs (DecidableEq ByteArray)
theorem kStr : keyable .str = true := rfl
theorem v36 : Vc g36 300 Tryz.f36 cCheck := by
  constructor
  rw [v36_eq]
  simp only [Wr_iff, bcase_iff, true_and, and_true, decide_eq_true_eq, decide_eq_false_iff_not, Bool.and_eq_true, Bool.and_eq_false_iff, Bool.or_eq_true, Bool.or_eq_false_iff, Bool.not_eq_true', Bool.not_eq_false', Option.map_some, Option.getD_some, Option.isSome_some, Option.isSome_map, imp_self, nilL, noneO]
  intro x _
  generalize x.fst = p
  refine ⟨fun h1 => ⟨by ((repeat' apply And.intro) <;> first | exact Nat.le_refl _ | exact IdxI.zero _ _ | exact UnlI.zero _ _ | assumption), fun i hu => ⟨fun hi => ⟨hu.i0, hi, fun hg => ⟨fun h => absurd hu.i0 h, fun _ => chk_no (fun hc => by rw [hu.bad hi hg] at hc; cases hc.1.2)⟩, fun hg => ?_⟩, fun hi => ?_⟩⟩, fun h => chk_no (fun hc => by have := hc.1.1; omega)⟩
  · have hl : p.1.length ≤ 5000000000 := by have := h1.2; omega
    have k := hu.onN (ZoneT.zero) hl hi hg
    obtain ⟨k1, k2⟩ := k
    ((repeat' apply And.intro) <;> first | exact Nat.le_refl _ | exact IdxI.zero _ _ | exact UnlI.zero _ _ | assumption)
  have hz := hu.good hi
  clear hu hi i
  refine ⟨by ((repeat' apply And.intro) <;> first | exact Nat.le_refl _ | exact IdxI.zero _ _ | exact UnlI.zero _ _ | assumption), fun ⟨i, n, f⟩ hu => ⟨fun hi => ⟨hu.i0, hi, hu.room hi (by have := h1.2; omega), fun hg => ?_, fun hg => ?_⟩, fun hi => ?_⟩⟩
  · exact chk_no (fun hc => (UnlI.step (α := Zn) (kt := .str) kStr hu (by have := h1.2; omega) hi (z := ZoneT.zero) rfl).1 hg hc.2.1)
  · obtain ⟨k1, k2⟩ := (UnlI.step (α := Zn) (kt := .str) kStr hu (by have := h1.2; omega) hi (z := ZoneT.zero) rfl).2 hg
    ((repeat' apply And.intro) <;> first | exact Nat.le_refl _ | exact IdxI.zero _ _ | exact UnlI.zero _ _ | assumption)
  have hn := hu.fin hi
  clear hu hi
  refine ⟨fun h2 => ⟨by ((repeat' apply And.intro) <;> first | exact Nat.le_refl _ | exact IdxI.zero _ _ | exact UnlI.zero _ _ | assumption), fun i hu => ⟨fun hi => ⟨hu.i0, hi, fun hg => ⟨fun h => absurd hu.i0 h, fun _ => chk_no (fun hc => by rw [hu.bad hi hg] at hc; cases hc.2.2.1.2)⟩, fun hg => ?_⟩, fun hi => ?_⟩⟩, fun h => chk_no (fun hc => by have := hc.2.2.1.1; omega)⟩
  · have hl : p.2.1.length ≤ 5000000000 := by have := h2.2; omega
    obtain ⟨k1, k2⟩ := hu.onN (FatT.zero) hl hi hg
    ((repeat' apply And.intro) <;> first | exact Nat.le_refl _ | exact IdxI.zero _ _ | exact UnlI.zero _ _ | assumption)
  have hf := hu.good hi
  clear hu hi i
  refine ⟨by ((repeat' apply And.intro) <;> first | exact Nat.le_refl _ | exact IdxI.zero _ _ | exact UnlI.zero _ _ | assumption), fun ⟨i, n, f⟩ hu => ⟨fun hi => ⟨hu.i0, hi, hu.room hi (by have := h2.2; omega), fun hg => ?_, fun hg => ?_⟩, fun hi => ?_⟩⟩
  · exact chk_no (fun hc => (UnlI.step (α := Ft) (kt := AdT) kAd hu (by have := h2.2; omega) hi (z := FatT.zero) rfl).1 hg hc.2.2.2.1)
  · obtain ⟨k1, k2⟩ := (UnlI.step (α := Ft) (kt := AdT) kAd hu (by have := h2.2; omega) hi (z := FatT.zero) rfl).2 hg
    ((repeat' apply And.intro) <;> first | exact Nat.le_refl _ | exact IdxI.zero _ _ | exact UnlI.zero _ _ | assumption)
  have ha := hu.fin hi
  clear hu hi
  refine ⟨fun h3 => ⟨fun h4 => ⟨by ((repeat' apply And.intro) <;> first | exact Nat.le_refl _ | exact IdxI.zero _ _ | exact UnlI.zero _ _ | assumption), fun i hu => ⟨fun hi => ⟨hu.i0, hi, fun hg => ⟨fun h => absurd hu.i0 h, fun _ => chk_no (fun hc => by rw [hu.bad hi hg] at hc; cases hc.2.2.2.2.2.2.2)⟩, fun hg => ?_⟩, fun hi => ?_⟩⟩, fun h => chk_no (fun hc => by have := hc.2.2.2.2.2.2.1; omega)⟩, fun h => chk_no (fun hc => ?_)⟩
  · have hl : p.2.2.2.1.length ≤ 5000000000 := by have := h4.2; omega
    obtain ⟨k1, k2⟩ := hu.onN 0 hl hi hg
    ((repeat' apply And.intro) <;> first | exact Nat.le_refl _ | exact IdxI.zero _ _ | exact UnlI.zero _ _ | assumption)
  · have hd := hu.good hi
    have hl1 : p.1.length ≤ 8 := by have := h1.2; omega
    have hl2 : p.2.1.length ≤ 32 := by have := h2.2; omega
    have hl4 : p.2.2.2.1.length ≤ 16 := by have := h4.2; omega
    have hc : checkB p = true := (check_iff p).2 ⟨⟨hl1, hz⟩, hn, ⟨hl2, hf⟩, ha, h3.1, h3.2, hl4, hd⟩
    rw [check, hc]
    rfl
  · have q1 := hc.2.2.2.2.1
    have q2 := hc.2.2.2.2.2.1
    rcases h with (h | h) | h
    · simp at h
    · exact h q1
    · exact h q2
end Go.Proofs.YtfhlceooobabcaaGreatDoor.Wd
namespace Go.Proofs.YtfhlceooobabcaaGreatDoor.Wd
open Go Go.Eng Go.Lb Go.Ad
set_option maxRecDepth 100000
theorem val117 : Valid Tryz.prog GW 117 cRowOk := mkValidK gws Tb.mix Tb.tab_ok Tb.eqs_ok (by kernel_rfl) g117 rfl (allV_cons val45 allV_nil) (allI_cons Tryz.func118 (by kernel_rfl) (allI_cons Tryz.func119 (by kernel_rfl) allI_nil)) Tryz.func117 (by kernel_rfl) v117
theorem val79 : Valid Tryz.prog GW 79 cZone := mkValid gws Tb.mix Tb.tab_ok Tb.eqs_ok g79 rfl (allV_cons val45 (allV_cons (valFold val143) (allV_cons val117 allV_nil))) (allI_cons Tryz.func68 (by kernel_rfl) (allI_cons Tryz.func80 (by kernel_rfl) (allI_cons Tryz.func107 (by kernel_rfl) (allI_cons Tryz.func116 (by kernel_rfl) (allI_cons Tryz.func120 (by kernel_rfl) (allI_cons Tryz.func121 (by kernel_rfl) (allI_cons Tryz.func145 (by kernel_rfl) (allI_cons Tryz.func146 (by kernel_rfl) (allI_cons Tryz.func147 (by kernel_rfl) (allI_cons Tryz.func170 (by kernel_rfl) allI_nil)))))))))) Tryz.func79 (by kernel_rfl) v79
theorem val81 : Valid Tryz.prog GW 81 cFat := mkValid gws Tb.mix Tb.tab_ok Tb.eqs_ok g81 rfl (allV_cons val45 (allV_cons (valFold val143) allV_nil)) (allI_cons Tryz.func68 (by kernel_rfl) (allI_cons Tryz.func80 (by kernel_rfl) (allI_cons Tryz.func107 (by kernel_rfl) (allI_cons Tryz.func116 (by kernel_rfl) (allI_cons Tryz.func120 (by kernel_rfl) (allI_cons Tryz.func121 (by kernel_rfl) (allI_cons Tryz.func145 (by kernel_rfl) (allI_cons Tryz.func146 (by kernel_rfl) (allI_cons Tryz.func147 (by kernel_rfl) (allI_cons Tryz.func170 (by kernel_rfl) allI_nil)))))))))) Tryz.func81 (by kernel_rfl) v81
theorem val82 : Valid Tryz.prog GW 82 cDropOk := mkValid gws Tb.mix Tb.tab_ok Tb.eqs_ok g82 rfl (allV_cons val45 (allV_cons (valFold val143) allV_nil)) (allI_cons Tryz.func68 (by kernel_rfl) (allI_cons Tryz.func80 (by kernel_rfl) (allI_cons Tryz.func107 (by kernel_rfl) (allI_cons Tryz.func116 (by kernel_rfl) (allI_cons Tryz.func120 (by kernel_rfl) (allI_cons Tryz.func121 (by kernel_rfl) (allI_cons Tryz.func145 (by kernel_rfl) (allI_cons Tryz.func146 (by kernel_rfl) (allI_cons Tryz.func147 (by kernel_rfl) (allI_cons Tryz.func170 (by kernel_rfl) allI_nil)))))))))) Tryz.func82 (by kernel_rfl) v82
theorem val36 : Valid Tryz.prog GW 36 cCheck := mkValidK gws Tb.mix Tb.tab_ok Tb.eqs_ok (by kernel_rfl) g36 rfl (allV_cons val79 (allV_cons val81 (allV_cons val82 allV_nil))) (allI_cons Tryz.func60 (by kernel_rfl) (allI_cons Tryz.func83 (by kernel_rfl) (allI_cons Tryz.func84 (by kernel_rfl) (allI_cons Tryz.func85 (by kernel_rfl) (allI_cons Tryz.func86 (by kernel_rfl) (allI_cons Tryz.func87 (by kernel_rfl) (allI_cons Tryz.func88 (by kernel_rfl) (allI_cons Tryz.func89 (by kernel_rfl) (allI_cons Tryz.func104 (by kernel_rfl) (allI_cons Tryz.func122 (by kernel_rfl) (allI_cons Tryz.func123 (by kernel_rfl) (allI_cons Tryz.func124 (by kernel_rfl) (allI_cons Tryz.func125 (by kernel_rfl) (allI_cons Tryz.func126 (by kernel_rfl) (allI_cons Tryz.func127 (by kernel_rfl) (allI_cons Tryz.func148 (by kernel_rfl) allI_nil)))))))))))))))) Tryz.func36 (by kernel_rfl) v36
theorem val27 : Valid Tryz.prog GW 27 cFate := mkValid gws Tb.mix Tb.tab_ok Tb.eqs_ok g27 rfl allV_nil (allI_cons Tryz.func64 (by kernel_rfl) (allI_cons Tryz.func65 (by kernel_rfl) (allI_cons Tryz.func104 (by kernel_rfl) (allI_cons Tryz.func105 (by kernel_rfl) allI_nil)))) Tryz.func27 (by kernel_rfl) v27
end Go.Proofs.YtfhlceooobabcaaGreatDoor.Wd
set_option maxRecDepth 100000
namespace Go.Proofs.YtfhlceooobabcaaGreatDoor.Wd
open Go Go.Eng Go.Lb Go.Ad
abbrev DialT : Ty := .cons I64 (.cons AdT (.cons I8 (.cons .bool (.cons .bool .unit))))
abbrev LookT : Ty := .cons I64 (.cons .str (.cons I64 (.cons .bool .unit)))
abbrev SockT : Ty := .cons AdT (.cons I64 (.cons I64 (.cons I64 (.cons .bool .unit))))
abbrev MarkT : Ty := .cons .bool (.cons I64 (.cons I64 .unit))
abbrev WorldT : Ty := .cons PlanT (.cons I64 (.cons (.sl SockT) (.cons (.sl DialT) (.cons (.sl LookT) (.cons I64 (.cons (.sl MarkT) .unit))))))
abbrev LetT : Ty := .cons I8 (.cons I64 (.cons I64 (.cons I64 (.cons .str (.cons I64 .unit)))))
abbrev Dl := Int × Ad × Int × Bool × Bool × Unit
abbrev Lk := Int × ByteArray × Int × Bool × Unit
abbrev Sk := Ad × Int × Int × Int × Bool × Unit
abbrev Mk := Bool × Int × Int × Unit
abbrev Wd := Pl × Int × List Sk × List Dl × List Lk × Int × List Mk × Unit
abbrev Lt := Int × Int × Int × Int × ByteArray × Int × Unit
def zW : Wd := ((([] : List Zn), ([] : List Ft), 0, ([] : List Int), ()), 0, [], [], [], 0, [], ())
def zL : Lt := (0, 0, 0, 0, ByteArray.empty, 0, ())
def zDl : Dl := (0, zA, 0, false, false, ())
/-! what the world does -/
def newW (p : Pl) : Wd := bif checkB p then (p, 0, [], [], [], 0, [], ()) else zW
def byIs (b : Int) (d : Dl) : Bool := decide (d.1 = b)
def dlAd (a : Ad) (d : Dl) : Bool := decide (d.2.1 = a)
def ixD (l : List Dl) (b : Int) : Int := idxZ (byIs b) l
def nthD (l : List Dl) (a : Ad) : Int := (List.length (l.filter (dlAd a)) : Nat)
def putDl (w : Wd) (l : List Dl) : Wd := (w.1, w.2.1, w.2.2.1, l, w.2.2.2.2.1, w.2.2.2.2.2.1, w.2.2.2.2.2.2.1, ())
def dialE (w : Wd) (b : Int) (a : Ad) : Int := bif may1 a then (bif decide (0 ≤ ixD w.2.2.2.1 b) then 100 else 0) else 20
def dialW (w : Wd) (b : Int) (a : Ad) : Wd := bif decide (dialE w b a = 0) then putDl w (w.2.2.2.1 ++ [(b, a, fateF w.1 a (nthD w.2.2.2.1 a), false, false, ())]) else w
def overD (d : Dl) : Bool := d.2.2.2.2.1
def cutD (d : Dl) : Dl := (d.1, d.2.1, d.2.2.1, true, d.2.2.2.2.1, ())
def endD (d : Dl) : Dl := (d.1, d.2.1, d.2.2.1, d.2.2.2.1, true, ())
def getDl (l : List Dl) (i : Int) : Dl := l.getD i.toNat zDl
def setDl (l : List Dl) (i : Int) (f : Dl → Dl) : List Dl := l.set i.toNat (f (getDl l i))
def cutW (w : Wd) (b : Int) : Wd := bif decide (0 ≤ ixD w.2.2.2.1 b) && !overD (getDl w.2.2.2.1 (ixD w.2.2.2.1 b)) then putDl w (setDl w.2.2.2.1 (ixD w.2.2.2.1 b) cutD) else w
def readyD (d : Dl) : Bool := !overD d && (decide (d.2.2.1 = 0) || (decide (d.2.2.1 = 1) || decide (d.2.2.1 = 2) && d.2.2.2.1))
def readyW (w : Wd) (b : Int) : Bool := decide (0 ≤ ixD w.2.2.2.1 b) && readyD (getDl w.2.2.2.1 (ixD w.2.2.2.1 b))
def fateOf (w : Wd) (b : Int) : Int := (getDl w.2.2.2.1 (ixD w.2.2.2.1 b)).2.2.1
def endDs (w : Wd) (b : Int) : List Dl := setDl w.2.2.2.1 (ixD w.2.2.2.1 b) endD
def newS (a : Ad) (b now : Int) : Sk := (a, b, now, 0, false, ())
def endW (w : Wd) (b : Int) : Wd := bif readyW w b then
    (bif decide (fateOf w b = 0) then (w.1, w.2.1, w.2.2.1 ++ [newS (getDl w.2.2.2.1 (ixD w.2.2.2.1 b)).2.1 b w.2.1], endDs w b, w.2.2.2.2.1, w.2.2.2.2.2.1, w.2.2.2.2.2.2.1 ++ [(false, (w.2.2.1.length : Int), w.2.1, ())], ()) else putDl w (endDs w b)) else w
def endM (w : Wd) (b : Int) : Lt := bif readyW w b then (bif decide (fateOf w b = 0) then (11, 0, 0, (w.2.2.1.length : Int), ByteArray.empty, 0, ()) else (11, 0, 0, 0, ByteArray.empty, 160, ())) else zL
def endE (w : Wd) (b : Int) : Int := bif readyW w b then 0 else 100
def eqAd (a b : Ad) : Bool := decide (b = a)
def hasA (l : List Ad) (a : Ad) : Bool := l.any (eqAd a)
def underB (a : List Ad) (d : Dl) : Bool := !overD d && (decide (a.length = 0) || hasA a d.2.1)
def underW (w : Wd) (a : List Ad) : Int := (List.length (w.2.2.2.1.filter (underB a)) : Nat)
/-! contracts -/
def okD (l : List Dl) : Bool := decide (l.length ≤ 1000000)
def okW (w : Wd) : Bool := okD w.2.2.2.1 && (decide (w.2.2.1.length ≤ 1000000) && (decide (w.2.2.2.2.2.2.1.length ≤ 1000000) && okP w.1))
def cNew : Contract := conD (.cons PlanT .unit) (.cons WorldT (.cons I64 .unit)) (fun _ => true) fun x => (newW x.1, (check x.1, ()))
def cDial : Contract := conD (.cons WorldT (.cons I64 (.cons AdT .unit))) (.cons WorldT (.cons I64 .unit)) (fun x => okW x.1) fun x => (dialW x.1 x.2.1 x.2.2.1, (dialE x.1 x.2.1 x.2.2.1, ()))
def cCut : Contract := conD (.cons WorldT (.cons I64 .unit)) (.cons WorldT .unit) (fun x => okW x.1) fun x => (cutW x.1 x.2.1, ())
def cReady : Contract := conD (.cons WorldT (.cons I64 .unit)) (.cons .bool .unit) (fun x => okW x.1) fun x => (readyW x.1 x.2.1, ())
def cEnd : Contract := conD (.cons WorldT (.cons I64 .unit)) (.cons WorldT (.cons LetT (.cons I64 .unit))) (fun x => okW x.1) fun x => (endW x.1 x.2.1, (endM x.1 x.2.1, (endE x.1 x.2.1, ())))
abbrev GlobeT : Ty := .cons WorldT .unit
def glW (o : Option (Wd × Unit)) : Wd := match o with
  | some w => w.1
  | none => zW
def okG (o : Option (Wd × Unit)) : Bool := o.isSome && okW (glW o)
def cDialP : Contract := conD (.cons (.ptr GlobeT) (.cons I64 .unit)) (.cons I64 .unit) (fun x => okG x.1) fun x => (ixD (glW x.1).2.2.2.1 x.2.1, ())
def cReadyP : Contract := conD (.cons (.ptr GlobeT) (.cons I64 .unit)) (.cons .bool .unit) (fun x => okG x.1) fun x => (readyW (glW x.1) x.2.1, ())
def cUnder : Contract := conD (.cons WorldT (.cons AdL .unit)) (.cons I64 .unit) (fun x => okW x.1 && lenA x.2.1) fun x => (underW x.1 x.2.1, ())
def addS (l : List Sk) (a : Ad) (b now : Int) : List Sk := l ++ [newS a b now]
def addM (m : List Mk) (s : Bool) (n now : Int) : List Mk := m ++ [(s, n, now, ())]
def lenS (l : List Sk) : Int := l.length
def okSM (l : List Sk) (m : List Mk) : Bool := decide (l.length ≤ 1000000) && decide (m.length ≤ 1000000)
def cOpen : Contract := conD (.cons (.sl SockT) (.cons (.sl MarkT) (.cons AdT (.cons I64 (.cons I64 .unit))))) (.cons (.sl SockT) (.cons (.sl MarkT) (.cons I64 .unit))) (fun x => okSM x.1 x.2.1)
  fun x => (addS x.1 x.2.2.1 x.2.2.2.1 x.2.2.2.2.1, (addM x.2.1 false (lenS x.1) x.2.2.2.2.1, (lenS x.1, ())))
def cHas : Contract := conD (.cons AdL (.cons AdT .unit)) (.cons .bool .unit) (fun x => lenA x.1) fun x => (hasA x.1 x.2.1, ())
/-! loops -/
def cntB {α : Type} (p : α → Bool) (l : List α) (i : Int) : Int := (List.length ((l.take i.toNat).filter p) : Nat)
structure CntI {α : Type} (p : α → Bool) (l : List α) (i n : Int) : Prop where
  i0 : 0 ≤ i
  i1 : i ≤ l.length
  a : n = cntB p l i
def manyL (nx : Nat) (p : St → Dl → Bool) : LoopAnn where
  α := Int × Int
  keep := [0, 1, 7, 8]
  okeep := []
  nxt := nx
  env := fun _ x => [(9, .dat I64 x.1), (4, .dat I64 x.2)]
  own := fun _ _ => []
  inv := fun s x => CntI (p s) (bDat (.sl DialT) s 0).out x.1 x.2
  mu := fun s x => List.length (α := Dl) (bDat (.sl DialT) s 0).out - x.1.toNat
  pick := some fun _ s => ((bDat I64 s 9).out, (bDat I64 s 4).out)
def boxO (s : St) (k : Nat) : Go.Eng.Own := match Go.Eng.look s.env k with
  | .pt o _ => [(o, lookO s.own o)]
  | _ => []
def hasL : LoopAnn where
  α := Int
  keep := [0, 3, 6, 7]
  okeep := []
  nxt := 3000
  env := fun _ x => [(8, .dat I64 x)]
  own := fun s _ => boxO s 3
  inv := fun s x => IdxI (eqAd (bDat AdT s 1).out) (bDat AdL s 0).out x
  mu := fun s x => List.length (α := Ad) (bDat AdL s 0).out - x.toNat
  pick := some fun _ s => (bDat I64 s 8).out
end Go.Proofs.YtfhlceooobabcaaGreatDoor.Wd
namespace Go.Proofs.YtfhlceooobabcaaGreatDoor.Wd
open Go Go.Eng Go.Lb Go.Ad
set_option maxRecDepth 100000
noncomputable def g49 : Cfg := { tab := Tb.tab, cons := [], inls := [], loops := [], cuts := [], unroll := false, arrs := [], keys := [] }
noncomputable def g101 : Cfg := { tab := Tb.tab, cons := [], inls := [], loops := [], cuts := [], unroll := false, arrs := [], keys := [] }
noncomputable def g102 : Cfg := { tab := Tb.tab, cons := [], inls := [], loops := [], cuts := [], unroll := false, arrs := [], keys := [] }
noncomputable def g99 : Cfg := { tab := Tb.tab, cons := [], inls := [], loops := [], cuts := [], unroll := false, arrs := [], keys := [] }
noncomputable def g10 : Cfg := { tab := Tb.tab, cons := [(36, cCheck)], inls := [], loops := [], cuts := [], unroll := false, arrs := [], keys := [] }
noncomputable def g46 : Cfg := { tab := Tb.tab, cons := [], inls := [(97, Tryz.f97), (98, Tryz.f98), (132, Tryz.f132)], loops := [(1330002, idxL 3000 DialT fun s => byIs (capDat I64 s 1).out)], cuts := [], unroll := false, arrs := [], keys := [] }
noncomputable def g54 : Cfg := { tab := Tb.tab, cons := [(46, cDialP)], inls := [], loops := [], cuts := [], unroll := false, arrs := [], keys := [] }
noncomputable def g17 : Cfg := { tab := Tb.tab, cons := [(27, cFate), (45, cMay), (46, cDialP), (49, cClip DialT)], inls := [(47, Tryz.f47), (48, Tryz.f48)], loops := [(480002, manyL 4000 fun s => dlAd (capDat AdT s 1).out)], cuts := [], unroll := false, arrs := [], keys := [] }
noncomputable def g18 : Cfg := { tab := Tb.tab, cons := [(46, cDialP), (99, cClone 96 48 DialT)], inls := [(50, Tryz.f50), (51, Tryz.f51)], loops := [], cuts := [], unroll := false, arrs := [], keys := [] }
noncomputable def g20 : Cfg := { tab := Tb.tab, cons := [(54, cReadyP)], inls := [], loops := [], cuts := [], unroll := false, arrs := [], keys := [] }
noncomputable def g56 : Cfg := { tab := Tb.tab, cons := [(101, cClip SockT), (102, cClip MarkT)], inls := [], loops := [], cuts := [], unroll := false, arrs := [], keys := [] }
noncomputable def g21 : Cfg := { tab := Tb.tab, cons := [(46, cDialP), (54, cReadyP), (56, cOpen), (99, cClone 96 48 DialT)], inls := [(50, Tryz.f50), (55, Tryz.f55)], loops := [], cuts := [], unroll := false, arrs := [], keys := [] }
noncomputable def g53 : Cfg := { tab := Tb.tab, cons := [], inls := [(100, Tryz.f100)], loops := [(1010002, hasL)], cuts := [], unroll := false, arrs := [], keys := [] }
noncomputable def g19 : Cfg := { tab := Tb.tab, cons := [(53, cHas)], inls := [(47, Tryz.f47), (52, Tryz.f52)], loops := [(480002, manyL 4000 fun s => underB (capDat AdL s 1).out)], cuts := [], unroll := false, arrs := [], keys := [] }
end Go.Proofs.YtfhlceooobabcaaGreatDoor.Wd
namespace Go.Proofs.YtfhlceooobabcaaGreatDoor.Wd
open Go Go.Eng Go.Lb Go.Ad
set_option maxRecDepth 100000
theorem v49_eq : vcFn g49 300 Tryz.f49 (cClip DialT) = ( ∀ (x : List (Int × (Int × (Int × Int × Int × Int × Int × Int × Int × Int × Unit) × Int × Unit) × Int × Bool × Bool × Unit) × Unit), Wr True → Wr ((0 : Int) ≤ (0 : Int)) ∧ Wr ((0 : Int) ≤ (↑(List.length x.fst) : Int)) ∧
  Wr ((↑(List.length x.fst) : Int) ≤ (↑(List.length x.fst) : Int)) ∧ Wr ((↑(List.length x.fst) : Int) = (↑(List.length x.fst) : Int)) ∧ (List.drop (Int.toNat (0 : Int)) (List.take (Int.toNat (↑(List.length x.fst) : Int))
  x.fst), ()) = x) := by kernel_rfl
theorem v101_eq : vcFn g101 300 Tryz.f101 (cClip SockT) = ( ∀ (x : List ((Int × (Int × Int × Int × Int × Int × Int × Int × Int × Unit) × Int × Unit) × Int × Int × Int × Bool × Unit) × Unit), Wr True → Wr ((0 : Int) ≤ (0 : Int)) ∧ Wr ((0 : Int) ≤ (↑(List.length x.fst) : Int)) ∧ Wr
  ((↑(List.length x.fst) : Int) ≤ (↑(List.length x.fst) : Int)) ∧ Wr ((↑(List.length x.fst) : Int) = (↑(List.length x.fst) : Int)) ∧ (List.drop (Int.toNat (0 : Int)) (List.take (Int.toNat (↑(List.length x.fst) : Int))
  x.fst), ()) = x) := by kernel_rfl
theorem v102_eq : vcFn g102 300 Tryz.f102 (cClip MarkT) = ( ∀ (x : List (Bool × Int × Int × Unit) × Unit), Wr True → Wr ((0 : Int) ≤ (0 : Int)) ∧ Wr ((0 : Int) ≤ (↑(List.length x.fst) : Int)) ∧ Wr ((↑(List.length x.fst) : Int) ≤ (↑(List.length x.fst) : Int)) ∧ Wr ((↑(List.length
  x.fst) : Int) = (↑(List.length x.fst) : Int)) ∧ (List.drop (Int.toNat (0 : Int)) (List.take (Int.toNat (↑(List.length x.fst) : Int)) x.fst), ()) = x) := by kernel_rfl
theorem v99_eq : vcFn g99 300 Tryz.f99 (cClone 96 48 DialT) = ( ∀ (x : List (Int × (Int × (Int × Int × Int × Int × Int × Int × Int × Int × Unit) × Int × Unit) × Int × Bool × Bool × Unit) × Unit), Wr (Decidable.decide (List.length x.fst * (48 : Nat) ≤ (140737488355328 : Nat)) =
  Bool.true) → ∀ (b : Bool), Wr (b = Bool.true → x.fst = nilL (Int × (Int × (Int × Int × Int × Int × Int × Int × Int × Int × Unit) × Int × Unit) × Int × Bool × Bool × Unit)) → bcase b (x.fst = nilL (Int × (Int × (Int ×
  Int × Int × Int × Int × Int × Int × Int × Unit) × Int × Unit) × Int × Bool × Bool × Unit)) (Wr ((List.length (nilL (Int × (Int × (Int × Int × Int × Int × Int × Int × Int × Int × Unit) × Int × Unit) × Int × Bool × Bool ×
  Unit)) + List.length x.fst) * (48 : Nat) ≤ (140737488355328 : Nat)) ∧ nilL (Int × (Int × (Int × Int × Int × Int × Int × Int × Int × Int × Unit) × Int × Unit) × Int × Bool × Bool × Unit) ++ x.fst = x.fst)) := by kernel_rfl
theorem v10_eq : vcFn g10 300 Tryz.f10 cNew = ( ∀ (x : (List (ByteArray × List (List (Int × (Int × Int × Int × Int × Int × Int × Int × Int × Unit) × Int × Unit)) × Unit) × List ((Int × (Int × Int × Int × Int × Int × Int × Int × Int × Unit) × Int × Unit) × List Int ×
  Unit) × Int × List Int × Unit) × Unit), Wr (Bool.true = Bool.true) → Wr (Bool.true = Bool.true) ∧ bcase (Decidable.decide (check x.fst = (0 : Int))) (((x.fst, (0 : Int), nilL ((Int × (Int × Int × Int × Int × Int × Int ×
  Int × Int × Unit) × Int × Unit) × Int × Int × Int × Bool × Unit), nilL (Int × (Int × (Int × Int × Int × Int × Int × Int × Int × Int × Unit) × Int × Unit) × Int × Bool × Bool × Unit), nilL (Int × ByteArray × Int × Bool ×
  Unit), (0 : Int), nilL (Bool × Int × Int × Unit), ()), check x.fst, ()) = (newW x.fst, check x.fst, ())) ((((nilL (ByteArray × List (List (Int × (Int × Int × Int × Int × Int × Int × Int × Int × Unit) × Int × Unit)) ×
  Unit), nilL ((Int × (Int × Int × Int × Int × Int × Int × Int × Int × Unit) × Int × Unit) × List Int × Unit), (0 : Int), nilL Int, ()), (0 : Int), nilL ((Int × (Int × Int × Int × Int × Int × Int × Int × Int × Unit) × Int
  × Unit) × Int × Int × Int × Bool × Unit), nilL (Int × (Int × (Int × Int × Int × Int × Int × Int × Int × Int × Unit) × Int × Unit) × Int × Bool × Bool × Unit), nilL (Int × ByteArray × Int × Bool × Unit), (0 : Int), nilL
  (Bool × Int × Int × Unit), ()), check x.fst, ()) = (newW x.fst, check x.fst, ()))) := by kernel_rfl
theorem v46_eq : vcFn g46 300 Tryz.f46 cDialP = ( ∀ (x : Option (((List (ByteArray × List (List (Int × (Int × Int × Int × Int × Int × Int × Int × Int × Unit) × Int × Unit)) × Unit) × List ((Int × (Int × Int × Int × Int × Int × Int × Int × Int × Unit) × Int × Unit) ×
  List Int × Unit) × Int × List Int × Unit) × Int × List ((Int × (Int × Int × Int × Int × Int × Int × Int × Int × Unit) × Int × Unit) × Int × Int × Int × Bool × Unit) × List (Int × (Int × (Int × Int × Int × Int × Int ×
  Int × Int × Int × Unit) × Int × Unit) × Int × Bool × Bool × Unit) × List (Int × ByteArray × Int × Bool × Unit) × Int × List (Bool × Int × Int × Unit) × Unit) × Unit) × Int × Unit), Wr (okG x.fst = Bool.true) → Wr
  (Option.isSome x.fst = Bool.true) ∧ Wr (Option.isSome x.fst = Bool.true) ∧ Wr (Option.isSome (Option.map (fun (x : ((List (ByteArray × List (List (Int × (Int × Int × Int × Int × Int × Int × Int × Int × Unit) × Int ×
  Unit)) × Unit) × List ((Int × (Int × Int × Int × Int × Int × Int × Int × Int × Unit) × Int × Unit) × List Int × Unit) × Int × List Int × Unit) × Int × List ((Int × (Int × Int × Int × Int × Int × Int × Int × Int × Unit)
  × Int × Unit) × Int × Int × Int × Bool × Unit) × List (Int × (Int × (Int × Int × Int × Int × Int × Int × Int × Int × Unit) × Int × Unit) × Int × Bool × Bool × Unit) × List (Int × ByteArray × Int × Bool × Unit) × Int ×
  List (Bool × Int × Int × Unit) × Unit) × Unit) => x.fst) x.fst) = Bool.true) ∧ Wr (Option.isSome (Option.map (fun (x : (List (ByteArray × List (List (Int × (Int × Int × Int × Int × Int × Int × Int × Int × Unit) × Int ×
  Unit)) × Unit) × List ((Int × (Int × Int × Int × Int × Int × Int × Int × Int × Unit) × Int × Unit) × List Int × Unit) × Int × List Int × Unit) × Int × List ((Int × (Int × Int × Int × Int × Int × Int × Int × Int × Unit)
  × Int × Unit) × Int × Int × Int × Bool × Unit) × List (Int × (Int × (Int × Int × Int × Int × Int × Int × Int × Int × Unit) × Int × Unit) × Int × Bool × Bool × Unit) × List (Int × ByteArray × Int × Bool × Unit) × Int ×
  List (Bool × Int × Int × Unit) × Unit) => x.snd.snd.snd.fst) (Option.map (fun (x : ((List (ByteArray × List (List (Int × (Int × Int × Int × Int × Int × Int × Int × Int × Unit) × Int × Unit)) × Unit) × List ((Int × (Int
  × Int × Int × Int × Int × Int × Int × Int × Unit) × Int × Unit) × List Int × Unit) × Int × List Int × Unit) × Int × List ((Int × (Int × Int × Int × Int × Int × Int × Int × Int × Unit) × Int × Unit) × Int × Int × Int ×
  Bool × Unit) × List (Int × (Int × (Int × Int × Int × Int × Int × Int × Int × Int × Unit) × Int × Unit) × Int × Bool × Bool × Unit) × List (Int × ByteArray × Int × Bool × Unit) × Int × List (Bool × Int × Int × Unit) ×
  Unit) × Unit) => x.fst) x.fst)) = Bool.true) ∧ (Wr (IdxI (byIs x.snd.fst) (Option.getD (Option.map (fun (x : (List (ByteArray × List (List (Int × (Int × Int × Int × Int × Int × Int × Int × Int × Unit) × Int × Unit)) ×
  Unit) × List ((Int × (Int × Int × Int × Int × Int × Int × Int × Int × Unit) × Int × Unit) × List Int × Unit) × Int × List Int × Unit) × Int × List ((Int × (Int × Int × Int × Int × Int × Int × Int × Int × Unit) × Int ×
  Unit) × Int × Int × Int × Bool × Unit) × List (Int × (Int × (Int × Int × Int × Int × Int × Int × Int × Int × Unit) × Int × Unit) × Int × Bool × Bool × Unit) × List (Int × ByteArray × Int × Bool × Unit) × Int × List
  (Bool × Int × Int × Unit) × Unit) => x.snd.snd.snd.fst) (Option.map (fun (x : ((List (ByteArray × List (List (Int × (Int × Int × Int × Int × Int × Int × Int × Int × Unit) × Int × Unit)) × Unit) × List ((Int × (Int × Int
  × Int × Int × Int × Int × Int × Int × Unit) × Int × Unit) × List Int × Unit) × Int × List Int × Unit) × Int × List ((Int × (Int × Int × Int × Int × Int × Int × Int × Int × Unit) × Int × Unit) × Int × Int × Int × Bool ×
  Unit) × List (Int × (Int × (Int × Int × Int × Int × Int × Int × Int × Int × Unit) × Int × Unit) × Int × Bool × Bool × Unit) × List (Int × ByteArray × Int × Bool × Unit) × Int × List (Bool × Int × Int × Unit) × Unit) ×
  Unit) => x.fst) x.fst)) (Ty.zero (Ty.sl DialT))) (0 : Int)) ∧ Wr ((0 : Int) = (0 : Int)) ∧ Wr (Option.getD (Option.map (fun (x : (List (ByteArray × List (List (Int × (Int × Int × Int × Int × Int × Int × Int × Int ×
  Unit) × Int × Unit)) × Unit) × List ((Int × (Int × Int × Int × Int × Int × Int × Int × Int × Unit) × Int × Unit) × List Int × Unit) × Int × List Int × Unit) × Int × List ((Int × (Int × Int × Int × Int × Int × Int × Int
  × Int × Unit) × Int × Unit) × Int × Int × Int × Bool × Unit) × List (Int × (Int × (Int × Int × Int × Int × Int × Int × Int × Int × Unit) × Int × Unit) × Int × Bool × Bool × Unit) × List (Int × ByteArray × Int × Bool ×
  Unit) × Int × List (Bool × Int × Int × Unit) × Unit) => x.snd.snd.snd.fst) (Option.map (fun (x : ((List (ByteArray × List (List (Int × (Int × Int × Int × Int × Int × Int × Int × Int × Unit) × Int × Unit)) × Unit) × List
  ((Int × (Int × Int × Int × Int × Int × Int × Int × Int × Unit) × Int × Unit) × List Int × Unit) × Int × List Int × Unit) × Int × List ((Int × (Int × Int × Int × Int × Int × Int × Int × Int × Unit) × Int × Unit) × Int ×
  Int × Int × Bool × Unit) × List (Int × (Int × (Int × Int × Int × Int × Int × Int × Int × Int × Unit) × Int × Unit) × Int × Bool × Bool × Unit) × List (Int × ByteArray × Int × Bool × Unit) × Int × List (Bool × Int × Int
  × Unit) × Unit) × Unit) => x.fst) x.fst)) (Ty.zero (Ty.sl DialT)) = Option.getD (Option.map (fun (x : (List (ByteArray × List (List (Int × (Int × Int × Int × Int × Int × Int × Int × Int × Unit) × Int × Unit)) × Unit) ×
  List ((Int × (Int × Int × Int × Int × Int × Int × Int × Int × Unit) × Int × Unit) × List Int × Unit) × Int × List Int × Unit) × Int × List ((Int × (Int × Int × Int × Int × Int × Int × Int × Int × Unit) × Int × Unit) ×
  Int × Int × Int × Bool × Unit) × List (Int × (Int × (Int × Int × Int × Int × Int × Int × Int × Int × Unit) × Int × Unit) × Int × Bool × Bool × Unit) × List (Int × ByteArray × Int × Bool × Unit) × Int × List (Bool × Int
  × Int × Unit) × Unit) => x.snd.snd.snd.fst) (Option.map (fun (x : ((List (ByteArray × List (List (Int × (Int × Int × Int × Int × Int × Int × Int × Int × Unit) × Int × Unit)) × Unit) × List ((Int × (Int × Int × Int × Int
  × Int × Int × Int × Int × Unit) × Int × Unit) × List Int × Unit) × Int × List Int × Unit) × Int × List ((Int × (Int × Int × Int × Int × Int × Int × Int × Int × Unit) × Int × Unit) × Int × Int × Int × Bool × Unit) × List
  (Int × (Int × (Int × Int × Int × Int × Int × Int × Int × Int × Unit) × Int × Unit) × Int × Bool × Bool × Unit) × List (Int × ByteArray × Int × Bool × Unit) × Int × List (Bool × Int × Int × Unit) × Unit) × Unit) =>
  x.fst) x.fst)) (Ty.zero (Ty.sl DialT))) ∧ Wr (Option.getD (Option.map (fun (x : (List (ByteArray × List (List (Int × (Int × Int × Int × Int × Int × Int × Int × Int × Unit) × Int × Unit)) × Unit) × List ((Int × (Int ×
  Int × Int × Int × Int × Int × Int × Int × Unit) × Int × Unit) × List Int × Unit) × Int × List Int × Unit) × Int × List ((Int × (Int × Int × Int × Int × Int × Int × Int × Int × Unit) × Int × Unit) × Int × Int × Int ×
  Bool × Unit) × List (Int × (Int × (Int × Int × Int × Int × Int × Int × Int × Int × Unit) × Int × Unit) × Int × Bool × Bool × Unit) × List (Int × ByteArray × Int × Bool × Unit) × Int × List (Bool × Int × Int × Unit) ×
  Unit) => x.snd.snd.snd.fst) (Option.map (fun (x : ((List (ByteArray × List (List (Int × (Int × Int × Int × Int × Int × Int × Int × Int × Unit) × Int × Unit)) × Unit) × List ((Int × (Int × Int × Int × Int × Int × Int ×
  Int × Int × Unit) × Int × Unit) × List Int × Unit) × Int × List Int × Unit) × Int × List ((Int × (Int × Int × Int × Int × Int × Int × Int × Int × Unit) × Int × Unit) × Int × Int × Int × Bool × Unit) × List (Int × (Int ×
  (Int × Int × Int × Int × Int × Int × Int × Int × Unit) × Int × Unit) × Int × Bool × Bool × Unit) × List (Int × ByteArray × Int × Bool × Unit) × Int × List (Bool × Int × Int × Unit) × Unit) × Unit) => x.fst) x.fst))
  (Ty.zero (Ty.sl DialT)) = Option.getD (Option.map (fun (x : (List (ByteArray × List (List (Int × (Int × Int × Int × Int × Int × Int × Int × Int × Unit) × Int × Unit)) × Unit) × List ((Int × (Int × Int × Int × Int × Int
  × Int × Int × Int × Unit) × Int × Unit) × List Int × Unit) × Int × List Int × Unit) × Int × List ((Int × (Int × Int × Int × Int × Int × Int × Int × Int × Unit) × Int × Unit) × Int × Int × Int × Bool × Unit) × List (Int
  × (Int × (Int × Int × Int × Int × Int × Int × Int × Int × Unit) × Int × Unit) × Int × Bool × Bool × Unit) × List (Int × ByteArray × Int × Bool × Unit) × Int × List (Bool × Int × Int × Unit) × Unit) => x.snd.snd.snd.fst)
  (Option.map (fun (x : ((List (ByteArray × List (List (Int × (Int × Int × Int × Int × Int × Int × Int × Int × Unit) × Int × Unit)) × Unit) × List ((Int × (Int × Int × Int × Int × Int × Int × Int × Int × Unit) × Int ×
  Unit) × List Int × Unit) × Int × List Int × Unit) × Int × List ((Int × (Int × Int × Int × Int × Int × Int × Int × Int × Unit) × Int × Unit) × Int × Int × Int × Bool × Unit) × List (Int × (Int × (Int × Int × Int × Int ×
  Int × Int × Int × Int × Unit) × Int × Unit) × Int × Bool × Bool × Unit) × List (Int × ByteArray × Int × Bool × Unit) × Int × List (Bool × Int × Int × Unit) × Unit) × Unit) => x.fst) x.fst)) (Ty.zero (Ty.sl DialT))) ∧ Wr
  ((↑(List.length (Option.getD (Option.map (fun (x : (List (ByteArray × List (List (Int × (Int × Int × Int × Int × Int × Int × Int × Int × Unit) × Int × Unit)) × Unit) × List ((Int × (Int × Int × Int × Int × Int × Int ×
  Int × Int × Unit) × Int × Unit) × List Int × Unit) × Int × List Int × Unit) × Int × List ((Int × (Int × Int × Int × Int × Int × Int × Int × Int × Unit) × Int × Unit) × Int × Int × Int × Bool × Unit) × List (Int × (Int ×
  (Int × Int × Int × Int × Int × Int × Int × Int × Unit) × Int × Unit) × Int × Bool × Bool × Unit) × List (Int × ByteArray × Int × Bool × Unit) × Int × List (Bool × Int × Int × Unit) × Unit) => x.snd.snd.snd.fst)
  (Option.map (fun (x : ((List (ByteArray × List (List (Int × (Int × Int × Int × Int × Int × Int × Int × Int × Unit) × Int × Unit)) × Unit) × List ((Int × (Int × Int × Int × Int × Int × Int × Int × Int × Unit) × Int ×
  Unit) × List Int × Unit) × Int × List Int × Unit) × Int × List ((Int × (Int × Int × Int × Int × Int × Int × Int × Int × Unit) × Int × Unit) × Int × Int × Int × Bool × Unit) × List (Int × (Int × (Int × Int × Int × Int ×
  Int × Int × Int × Int × Unit) × Int × Unit) × Int × Bool × Bool × Unit) × List (Int × ByteArray × Int × Bool × Unit) × Int × List (Bool × Int × Int × Unit) × Unit) × Unit) => x.fst) x.fst)) (Ty.zero (Ty.sl DialT)))) :
  Int) = (↑(List.length (Option.getD (Option.map (fun (x : (List (ByteArray × List (List (Int × (Int × Int × Int × Int × Int × Int × Int × Int × Unit) × Int × Unit)) × Unit) × List ((Int × (Int × Int × Int × Int × Int ×
  Int × Int × Int × Unit) × Int × Unit) × List Int × Unit) × Int × List Int × Unit) × Int × List ((Int × (Int × Int × Int × Int × Int × Int × Int × Int × Unit) × Int × Unit) × Int × Int × Int × Bool × Unit) × List (Int ×
  (Int × (Int × Int × Int × Int × Int × Int × Int × Int × Unit) × Int × Unit) × Int × Bool × Bool × Unit) × List (Int × ByteArray × Int × Bool × Unit) × Int × List (Bool × Int × Int × Unit) × Unit) => x.snd.snd.snd.fst)
  (Option.map (fun (x : ((List (ByteArray × List (List (Int × (Int × Int × Int × Int × Int × Int × Int × Int × Unit) × Int × Unit)) × Unit) × List ((Int × (Int × Int × Int × Int × Int × Int × Int × Int × Unit) × Int ×
  Unit) × List Int × Unit) × Int × List Int × Unit) × Int × List ((Int × (Int × Int × Int × Int × Int × Int × Int × Int × Unit) × Int × Unit) × Int × Int × Int × Bool × Unit) × List (Int × (Int × (Int × Int × Int × Int ×
  Int × Int × Int × Int × Unit) × Int × Unit) × Int × Bool × Bool × Unit) × List (Int × ByteArray × Int × Bool × Unit) × Int × List (Bool × Int × Int × Unit) × Unit) × Unit) => x.fst) x.fst)) (Ty.zero (Ty.sl DialT)))) :
  Int)) ∧ Wr (x.snd.fst = x.snd.fst)) ∧ ∀ (x_1 : Int), Wr (IdxI (byIs x.snd.fst) (Option.getD (Option.map (fun (x : (List (ByteArray × List (List (Int × (Int × Int × Int × Int × Int × Int × Int × Int × Unit) × Int ×
  Unit)) × Unit) × List ((Int × (Int × Int × Int × Int × Int × Int × Int × Int × Unit) × Int × Unit) × List Int × Unit) × Int × List Int × Unit) × Int × List ((Int × (Int × Int × Int × Int × Int × Int × Int × Int × Unit)
  × Int × Unit) × Int × Int × Int × Bool × Unit) × List (Int × (Int × (Int × Int × Int × Int × Int × Int × Int × Int × Unit) × Int × Unit) × Int × Bool × Bool × Unit) × List (Int × ByteArray × Int × Bool × Unit) × Int ×
  List (Bool × Int × Int × Unit) × Unit) => x.snd.snd.snd.fst) (Option.map (fun (x : ((List (ByteArray × List (List (Int × (Int × Int × Int × Int × Int × Int × Int × Int × Unit) × Int × Unit)) × Unit) × List ((Int × (Int
  × Int × Int × Int × Int × Int × Int × Int × Unit) × Int × Unit) × List Int × Unit) × Int × List Int × Unit) × Int × List ((Int × (Int × Int × Int × Int × Int × Int × Int × Int × Unit) × Int × Unit) × Int × Int × Int ×
  Bool × Unit) × List (Int × (Int × (Int × Int × Int × Int × Int × Int × Int × Int × Unit) × Int × Unit) × Int × Bool × Bool × Unit) × List (Int × ByteArray × Int × Bool × Unit) × Int × List (Bool × Int × Int × Unit) ×
  Unit) × Unit) => x.fst) x.fst)) (Ty.zero (Ty.sl DialT))) x_1) → bcase (Decidable.decide (x_1 < (↑(List.length (Option.getD (Option.map (fun (x : (List (ByteArray × List (List (Int × (Int × Int × Int × Int × Int × Int ×
  Int × Int × Unit) × Int × Unit)) × Unit) × List ((Int × (Int × Int × Int × Int × Int × Int × Int × Int × Unit) × Int × Unit) × List Int × Unit) × Int × List Int × Unit) × Int × List ((Int × (Int × Int × Int × Int × Int
  × Int × Int × Int × Unit) × Int × Unit) × Int × Int × Int × Bool × Unit) × List (Int × (Int × (Int × Int × Int × Int × Int × Int × Int × Int × Unit) × Int × Unit) × Int × Bool × Bool × Unit) × List (Int × ByteArray ×
  Int × Bool × Unit) × Int × List (Bool × Int × Int × Unit) × Unit) => x.snd.snd.snd.fst) (Option.map (fun (x : ((List (ByteArray × List (List (Int × (Int × Int × Int × Int × Int × Int × Int × Int × Unit) × Int × Unit)) ×
  Unit) × List ((Int × (Int × Int × Int × Int × Int × Int × Int × Int × Unit) × Int × Unit) × List Int × Unit) × Int × List Int × Unit) × Int × List ((Int × (Int × Int × Int × Int × Int × Int × Int × Int × Unit) × Int ×
  Unit) × Int × Int × Int × Bool × Unit) × List (Int × (Int × (Int × Int × Int × Int × Int × Int × Int × Int × Unit) × Int × Unit) × Int × Bool × Bool × Unit) × List (Int × ByteArray × Int × Bool × Unit) × Int × List
  (Bool × Int × Int × Unit) × Unit) × Unit) => x.fst) x.fst)) (Ty.zero (Ty.sl DialT)))) : Int))) (Wr ((0 : Int) ≤ x_1) ∧ Wr (x_1 < (↑(List.length (Option.getD (Option.map (fun (x : (List (ByteArray × List (List (Int ×
  (Int × Int × Int × Int × Int × Int × Int × Int × Unit) × Int × Unit)) × Unit) × List ((Int × (Int × Int × Int × Int × Int × Int × Int × Int × Unit) × Int × Unit) × List Int × Unit) × Int × List Int × Unit) × Int × List
  ((Int × (Int × Int × Int × Int × Int × Int × Int × Int × Unit) × Int × Unit) × Int × Int × Int × Bool × Unit) × List (Int × (Int × (Int × Int × Int × Int × Int × Int × Int × Int × Unit) × Int × Unit) × Int × Bool × Bool
  × Unit) × List (Int × ByteArray × Int × Bool × Unit) × Int × List (Bool × Int × Int × Unit) × Unit) => x.snd.snd.snd.fst) (Option.map (fun (x : ((List (ByteArray × List (List (Int × (Int × Int × Int × Int × Int × Int ×
  Int × Int × Unit) × Int × Unit)) × Unit) × List ((Int × (Int × Int × Int × Int × Int × Int × Int × Int × Unit) × Int × Unit) × List Int × Unit) × Int × List Int × Unit) × Int × List ((Int × (Int × Int × Int × Int × Int
  × Int × Int × Int × Unit) × Int × Unit) × Int × Int × Int × Bool × Unit) × List (Int × (Int × (Int × Int × Int × Int × Int × Int × Int × Int × Unit) × Int × Unit) × Int × Bool × Bool × Unit) × List (Int × ByteArray ×
  Int × Bool × Unit) × Int × List (Bool × Int × Int × Unit) × Unit) × Unit) => x.fst) x.fst)) (Ty.zero (Ty.sl DialT)))) : Int)) ∧ Wr (Bool.true = Bool.true) ∧ bcase (Decidable.decide ((List.getD (Option.getD (Option.map
  (fun (x : (List (ByteArray × List (List (Int × (Int × Int × Int × Int × Int × Int × Int × Int × Unit) × Int × Unit)) × Unit) × List ((Int × (Int × Int × Int × Int × Int × Int × Int × Int × Unit) × Int × Unit) × List Int
  × Unit) × Int × List Int × Unit) × Int × List ((Int × (Int × Int × Int × Int × Int × Int × Int × Int × Unit) × Int × Unit) × Int × Int × Int × Bool × Unit) × List (Int × (Int × (Int × Int × Int × Int × Int × Int × Int ×
  Int × Unit) × Int × Unit) × Int × Bool × Bool × Unit) × List (Int × ByteArray × Int × Bool × Unit) × Int × List (Bool × Int × Int × Unit) × Unit) => x.snd.snd.snd.fst) (Option.map (fun (x : ((List (ByteArray × List
  (List (Int × (Int × Int × Int × Int × Int × Int × Int × Int × Unit) × Int × Unit)) × Unit) × List ((Int × (Int × Int × Int × Int × Int × Int × Int × Int × Unit) × Int × Unit) × List Int × Unit) × Int × List Int × Unit)
  × Int × List ((Int × (Int × Int × Int × Int × Int × Int × Int × Int × Unit) × Int × Unit) × Int × Int × Int × Bool × Unit) × List (Int × (Int × (Int × Int × Int × Int × Int × Int × Int × Int × Unit) × Int × Unit) × Int
  × Bool × Bool × Unit) × List (Int × ByteArray × Int × Bool × Unit) × Int × List (Bool × Int × Int × Unit) × Unit) × Unit) => x.fst) x.fst)) (Ty.zero (Ty.sl DialT))) (Int.toNat x_1) (Ty.zero DialT)).fst = x.snd.fst))
  ((x_1, ()) = (ixD (glW x.fst).snd.snd.snd.fst x.snd.fst, ())) (Wr (IdxI (byIs x.snd.fst) (Option.getD (Option.map (fun (x : (List (ByteArray × List (List (Int × (Int × Int × Int × Int × Int × Int × Int × Int × Unit) ×
  Int × Unit)) × Unit) × List ((Int × (Int × Int × Int × Int × Int × Int × Int × Int × Unit) × Int × Unit) × List Int × Unit) × Int × List Int × Unit) × Int × List ((Int × (Int × Int × Int × Int × Int × Int × Int × Int ×
  Unit) × Int × Unit) × Int × Int × Int × Bool × Unit) × List (Int × (Int × (Int × Int × Int × Int × Int × Int × Int × Int × Unit) × Int × Unit) × Int × Bool × Bool × Unit) × List (Int × ByteArray × Int × Bool × Unit) ×
  Int × List (Bool × Int × Int × Unit) × Unit) => x.snd.snd.snd.fst) (Option.map (fun (x : ((List (ByteArray × List (List (Int × (Int × Int × Int × Int × Int × Int × Int × Int × Unit) × Int × Unit)) × Unit) × List ((Int ×
  (Int × Int × Int × Int × Int × Int × Int × Int × Unit) × Int × Unit) × List Int × Unit) × Int × List Int × Unit) × Int × List ((Int × (Int × Int × Int × Int × Int × Int × Int × Int × Unit) × Int × Unit) × Int × Int ×
  Int × Bool × Unit) × List (Int × (Int × (Int × Int × Int × Int × Int × Int × Int × Int × Unit) × Int × Unit) × Int × Bool × Bool × Unit) × List (Int × ByteArray × Int × Bool × Unit) × Int × List (Bool × Int × Int ×
  Unit) × Unit) × Unit) => x.fst) x.fst)) (Ty.zero (Ty.sl DialT))) (IntKind.wrap IntKind.i64 (x_1 + (1 : Int)))) ∧ Wr (List.length (Option.getD (Option.map (fun (x : (List (ByteArray × List (List (Int × (Int × Int × Int ×
  Int × Int × Int × Int × Int × Unit) × Int × Unit)) × Unit) × List ((Int × (Int × Int × Int × Int × Int × Int × Int × Int × Unit) × Int × Unit) × List Int × Unit) × Int × List Int × Unit) × Int × List ((Int × (Int × Int
  × Int × Int × Int × Int × Int × Int × Unit) × Int × Unit) × Int × Int × Int × Bool × Unit) × List (Int × (Int × (Int × Int × Int × Int × Int × Int × Int × Int × Unit) × Int × Unit) × Int × Bool × Bool × Unit) × List
  (Int × ByteArray × Int × Bool × Unit) × Int × List (Bool × Int × Int × Unit) × Unit) => x.snd.snd.snd.fst) (Option.map (fun (x : ((List (ByteArray × List (List (Int × (Int × Int × Int × Int × Int × Int × Int × Int ×
  Unit) × Int × Unit)) × Unit) × List ((Int × (Int × Int × Int × Int × Int × Int × Int × Int × Unit) × Int × Unit) × List Int × Unit) × Int × List Int × Unit) × Int × List ((Int × (Int × Int × Int × Int × Int × Int × Int
  × Int × Unit) × Int × Unit) × Int × Int × Int × Bool × Unit) × List (Int × (Int × (Int × Int × Int × Int × Int × Int × Int × Int × Unit) × Int × Unit) × Int × Bool × Bool × Unit) × List (Int × ByteArray × Int × Bool ×
  Unit) × Int × List (Bool × Int × Int × Unit) × Unit) × Unit) => x.fst) x.fst)) (Ty.zero (Ty.sl DialT))) - Int.toNat (IntKind.wrap IntKind.i64 (x_1 + (1 : Int))) < List.length (Option.getD (Option.map (fun (x : (List
  (ByteArray × List (List (Int × (Int × Int × Int × Int × Int × Int × Int × Int × Unit) × Int × Unit)) × Unit) × List ((Int × (Int × Int × Int × Int × Int × Int × Int × Int × Unit) × Int × Unit) × List Int × Unit) × Int ×
  List Int × Unit) × Int × List ((Int × (Int × Int × Int × Int × Int × Int × Int × Int × Unit) × Int × Unit) × Int × Int × Int × Bool × Unit) × List (Int × (Int × (Int × Int × Int × Int × Int × Int × Int × Int × Unit) ×
  Int × Unit) × Int × Bool × Bool × Unit) × List (Int × ByteArray × Int × Bool × Unit) × Int × List (Bool × Int × Int × Unit) × Unit) => x.snd.snd.snd.fst) (Option.map (fun (x : ((List (ByteArray × List (List (Int × (Int
  × Int × Int × Int × Int × Int × Int × Int × Unit) × Int × Unit)) × Unit) × List ((Int × (Int × Int × Int × Int × Int × Int × Int × Int × Unit) × Int × Unit) × List Int × Unit) × Int × List Int × Unit) × Int × List ((Int
  × (Int × Int × Int × Int × Int × Int × Int × Int × Unit) × Int × Unit) × Int × Int × Int × Bool × Unit) × List (Int × (Int × (Int × Int × Int × Int × Int × Int × Int × Int × Unit) × Int × Unit) × Int × Bool × Bool ×
  Unit) × List (Int × ByteArray × Int × Bool × Unit) × Int × List (Bool × Int × Int × Unit) × Unit) × Unit) => x.fst) x.fst)) (Ty.zero (Ty.sl DialT))) - Int.toNat x_1) ∧ Wr (IntKind.wrap IntKind.i64 (x_1 + (1 : Int)) =
  IntKind.wrap IntKind.i64 (x_1 + (1 : Int))) ∧ Wr (Option.getD (Option.map (fun (x : (List (ByteArray × List (List (Int × (Int × Int × Int × Int × Int × Int × Int × Int × Unit) × Int × Unit)) × Unit) × List ((Int × (Int
  × Int × Int × Int × Int × Int × Int × Int × Unit) × Int × Unit) × List Int × Unit) × Int × List Int × Unit) × Int × List ((Int × (Int × Int × Int × Int × Int × Int × Int × Int × Unit) × Int × Unit) × Int × Int × Int ×
  Bool × Unit) × List (Int × (Int × (Int × Int × Int × Int × Int × Int × Int × Int × Unit) × Int × Unit) × Int × Bool × Bool × Unit) × List (Int × ByteArray × Int × Bool × Unit) × Int × List (Bool × Int × Int × Unit) ×
  Unit) => x.snd.snd.snd.fst) (Option.map (fun (x : ((List (ByteArray × List (List (Int × (Int × Int × Int × Int × Int × Int × Int × Int × Unit) × Int × Unit)) × Unit) × List ((Int × (Int × Int × Int × Int × Int × Int ×
  Int × Int × Unit) × Int × Unit) × List Int × Unit) × Int × List Int × Unit) × Int × List ((Int × (Int × Int × Int × Int × Int × Int × Int × Int × Unit) × Int × Unit) × Int × Int × Int × Bool × Unit) × List (Int × (Int ×
  (Int × Int × Int × Int × Int × Int × Int × Int × Unit) × Int × Unit) × Int × Bool × Bool × Unit) × List (Int × ByteArray × Int × Bool × Unit) × Int × List (Bool × Int × Int × Unit) × Unit) × Unit) => x.fst) x.fst))
  (Ty.zero (Ty.sl DialT)) = Option.getD (Option.map (fun (x : (List (ByteArray × List (List (Int × (Int × Int × Int × Int × Int × Int × Int × Int × Unit) × Int × Unit)) × Unit) × List ((Int × (Int × Int × Int × Int × Int
  × Int × Int × Int × Unit) × Int × Unit) × List Int × Unit) × Int × List Int × Unit) × Int × List ((Int × (Int × Int × Int × Int × Int × Int × Int × Int × Unit) × Int × Unit) × Int × Int × Int × Bool × Unit) × List (Int
  × (Int × (Int × Int × Int × Int × Int × Int × Int × Int × Unit) × Int × Unit) × Int × Bool × Bool × Unit) × List (Int × ByteArray × Int × Bool × Unit) × Int × List (Bool × Int × Int × Unit) × Unit) => x.snd.snd.snd.fst)
  (Option.map (fun (x : ((List (ByteArray × List (List (Int × (Int × Int × Int × Int × Int × Int × Int × Int × Unit) × Int × Unit)) × Unit) × List ((Int × (Int × Int × Int × Int × Int × Int × Int × Int × Unit) × Int ×
  Unit) × List Int × Unit) × Int × List Int × Unit) × Int × List ((Int × (Int × Int × Int × Int × Int × Int × Int × Int × Unit) × Int × Unit) × Int × Int × Int × Bool × Unit) × List (Int × (Int × (Int × Int × Int × Int ×
  Int × Int × Int × Int × Unit) × Int × Unit) × Int × Bool × Bool × Unit) × List (Int × ByteArray × Int × Bool × Unit) × Int × List (Bool × Int × Int × Unit) × Unit) × Unit) => x.fst) x.fst)) (Ty.zero (Ty.sl DialT))) ∧ Wr
  (Option.getD (Option.map (fun (x : (List (ByteArray × List (List (Int × (Int × Int × Int × Int × Int × Int × Int × Int × Unit) × Int × Unit)) × Unit) × List ((Int × (Int × Int × Int × Int × Int × Int × Int × Int × Unit)
  × Int × Unit) × List Int × Unit) × Int × List Int × Unit) × Int × List ((Int × (Int × Int × Int × Int × Int × Int × Int × Int × Unit) × Int × Unit) × Int × Int × Int × Bool × Unit) × List (Int × (Int × (Int × Int × Int
  × Int × Int × Int × Int × Int × Unit) × Int × Unit) × Int × Bool × Bool × Unit) × List (Int × ByteArray × Int × Bool × Unit) × Int × List (Bool × Int × Int × Unit) × Unit) => x.snd.snd.snd.fst) (Option.map (fun (x :
  ((List (ByteArray × List (List (Int × (Int × Int × Int × Int × Int × Int × Int × Int × Unit) × Int × Unit)) × Unit) × List ((Int × (Int × Int × Int × Int × Int × Int × Int × Int × Unit) × Int × Unit) × List Int × Unit)
  × Int × List Int × Unit) × Int × List ((Int × (Int × Int × Int × Int × Int × Int × Int × Int × Unit) × Int × Unit) × Int × Int × Int × Bool × Unit) × List (Int × (Int × (Int × Int × Int × Int × Int × Int × Int × Int ×
  Unit) × Int × Unit) × Int × Bool × Bool × Unit) × List (Int × ByteArray × Int × Bool × Unit) × Int × List (Bool × Int × Int × Unit) × Unit) × Unit) => x.fst) x.fst)) (Ty.zero (Ty.sl DialT)) = Option.getD (Option.map
  (fun (x : (List (ByteArray × List (List (Int × (Int × Int × Int × Int × Int × Int × Int × Int × Unit) × Int × Unit)) × Unit) × List ((Int × (Int × Int × Int × Int × Int × Int × Int × Int × Unit) × Int × Unit) × List Int
  × Unit) × Int × List Int × Unit) × Int × List ((Int × (Int × Int × Int × Int × Int × Int × Int × Int × Unit) × Int × Unit) × Int × Int × Int × Bool × Unit) × List (Int × (Int × (Int × Int × Int × Int × Int × Int × Int ×
  Int × Unit) × Int × Unit) × Int × Bool × Bool × Unit) × List (Int × ByteArray × Int × Bool × Unit) × Int × List (Bool × Int × Int × Unit) × Unit) => x.snd.snd.snd.fst) (Option.map (fun (x : ((List (ByteArray × List
  (List (Int × (Int × Int × Int × Int × Int × Int × Int × Int × Unit) × Int × Unit)) × Unit) × List ((Int × (Int × Int × Int × Int × Int × Int × Int × Int × Unit) × Int × Unit) × List Int × Unit) × Int × List Int × Unit)
  × Int × List ((Int × (Int × Int × Int × Int × Int × Int × Int × Int × Unit) × Int × Unit) × Int × Int × Int × Bool × Unit) × List (Int × (Int × (Int × Int × Int × Int × Int × Int × Int × Int × Unit) × Int × Unit) × Int
  × Bool × Bool × Unit) × List (Int × ByteArray × Int × Bool × Unit) × Int × List (Bool × Int × Int × Unit) × Unit) × Unit) => x.fst) x.fst)) (Ty.zero (Ty.sl DialT))) ∧ Wr ((↑(List.length (Option.getD (Option.map (fun (x
  : (List (ByteArray × List (List (Int × (Int × Int × Int × Int × Int × Int × Int × Int × Unit) × Int × Unit)) × Unit) × List ((Int × (Int × Int × Int × Int × Int × Int × Int × Int × Unit) × Int × Unit) × List Int × Unit)
  × Int × List Int × Unit) × Int × List ((Int × (Int × Int × Int × Int × Int × Int × Int × Int × Unit) × Int × Unit) × Int × Int × Int × Bool × Unit) × List (Int × (Int × (Int × Int × Int × Int × Int × Int × Int × Int ×
  Unit) × Int × Unit) × Int × Bool × Bool × Unit) × List (Int × ByteArray × Int × Bool × Unit) × Int × List (Bool × Int × Int × Unit) × Unit) => x.snd.snd.snd.fst) (Option.map (fun (x : ((List (ByteArray × List (List (Int
  × (Int × Int × Int × Int × Int × Int × Int × Int × Unit) × Int × Unit)) × Unit) × List ((Int × (Int × Int × Int × Int × Int × Int × Int × Int × Unit) × Int × Unit) × List Int × Unit) × Int × List Int × Unit) × Int ×
  List ((Int × (Int × Int × Int × Int × Int × Int × Int × Int × Unit) × Int × Unit) × Int × Int × Int × Bool × Unit) × List (Int × (Int × (Int × Int × Int × Int × Int × Int × Int × Int × Unit) × Int × Unit) × Int × Bool ×
  Bool × Unit) × List (Int × ByteArray × Int × Bool × Unit) × Int × List (Bool × Int × Int × Unit) × Unit) × Unit) => x.fst) x.fst)) (Ty.zero (Ty.sl DialT)))) : Int) = (↑(List.length (Option.getD (Option.map (fun (x :
  (List (ByteArray × List (List (Int × (Int × Int × Int × Int × Int × Int × Int × Int × Unit) × Int × Unit)) × Unit) × List ((Int × (Int × Int × Int × Int × Int × Int × Int × Int × Unit) × Int × Unit) × List Int × Unit) ×
  Int × List Int × Unit) × Int × List ((Int × (Int × Int × Int × Int × Int × Int × Int × Int × Unit) × Int × Unit) × Int × Int × Int × Bool × Unit) × List (Int × (Int × (Int × Int × Int × Int × Int × Int × Int × Int ×
  Unit) × Int × Unit) × Int × Bool × Bool × Unit) × List (Int × ByteArray × Int × Bool × Unit) × Int × List (Bool × Int × Int × Unit) × Unit) => x.snd.snd.snd.fst) (Option.map (fun (x : ((List (ByteArray × List (List (Int
  × (Int × Int × Int × Int × Int × Int × Int × Int × Unit) × Int × Unit)) × Unit) × List ((Int × (Int × Int × Int × Int × Int × Int × Int × Int × Unit) × Int × Unit) × List Int × Unit) × Int × List Int × Unit) × Int ×
  List ((Int × (Int × Int × Int × Int × Int × Int × Int × Int × Unit) × Int × Unit) × Int × Int × Int × Bool × Unit) × List (Int × (Int × (Int × Int × Int × Int × Int × Int × Int × Int × Unit) × Int × Unit) × Int × Bool ×
  Bool × Unit) × List (Int × ByteArray × Int × Bool × Unit) × Int × List (Bool × Int × Int × Unit) × Unit) × Unit) => x.fst) x.fst)) (Ty.zero (Ty.sl DialT)))) : Int)) ∧ Wr (x.snd.fst = x.snd.fst))) (((-1 : Int), ()) =
  (ixD (glW x.fst).snd.snd.snd.fst x.snd.fst, ()))) := by kernel_rfl
theorem v54_eq : vcFn g54 300 Tryz.f54 cReadyP = ( ∀ (x : Option (((List (ByteArray × List (List (Int × (Int × Int × Int × Int × Int × Int × Int × Int × Unit) × Int × Unit)) × Unit) × List ((Int × (Int × Int × Int × Int × Int × Int × Int × Int × Unit) × Int × Unit) ×
  List Int × Unit) × Int × List Int × Unit) × Int × List ((Int × (Int × Int × Int × Int × Int × Int × Int × Int × Unit) × Int × Unit) × Int × Int × Int × Bool × Unit) × List (Int × (Int × (Int × Int × Int × Int × Int ×
  Int × Int × Int × Unit) × Int × Unit) × Int × Bool × Bool × Unit) × List (Int × ByteArray × Int × Bool × Unit) × Int × List (Bool × Int × Int × Unit) × Unit) × Unit) × Int × Unit), Wr (okG x.fst = Bool.true) → Wr (okG
  x.fst = Bool.true) ∧ Wr ((!Decidable.decide (ixD (glW x.fst).snd.snd.snd.fst x.snd.fst < (0 : Int))) = Bool.true → Option.isSome x.fst = Bool.true) ∧ Wr ((!Decidable.decide (ixD (glW x.fst).snd.snd.snd.fst x.snd.fst <
  (0 : Int))) = Bool.true → Option.isSome x.fst = Bool.true) ∧ Wr ((!Decidable.decide (ixD (glW x.fst).snd.snd.snd.fst x.snd.fst < (0 : Int))) = Bool.true → Option.isSome (Option.map (fun (x : ((List (ByteArray × List
  (List (Int × (Int × Int × Int × Int × Int × Int × Int × Int × Unit) × Int × Unit)) × Unit) × List ((Int × (Int × Int × Int × Int × Int × Int × Int × Int × Unit) × Int × Unit) × List Int × Unit) × Int × List Int × Unit)
  × Int × List ((Int × (Int × Int × Int × Int × Int × Int × Int × Int × Unit) × Int × Unit) × Int × Int × Int × Bool × Unit) × List (Int × (Int × (Int × Int × Int × Int × Int × Int × Int × Int × Unit) × Int × Unit) × Int
  × Bool × Bool × Unit) × List (Int × ByteArray × Int × Bool × Unit) × Int × List (Bool × Int × Int × Unit) × Unit) × Unit) => x.fst) x.fst) = Bool.true) ∧ Wr ((!Decidable.decide (ixD (glW x.fst).snd.snd.snd.fst x.snd.fst
  < (0 : Int))) = Bool.true → Option.isSome (Option.map (fun (x : (List (ByteArray × List (List (Int × (Int × Int × Int × Int × Int × Int × Int × Int × Unit) × Int × Unit)) × Unit) × List ((Int × (Int × Int × Int × Int ×
  Int × Int × Int × Int × Unit) × Int × Unit) × List Int × Unit) × Int × List Int × Unit) × Int × List ((Int × (Int × Int × Int × Int × Int × Int × Int × Int × Unit) × Int × Unit) × Int × Int × Int × Bool × Unit) × List
  (Int × (Int × (Int × Int × Int × Int × Int × Int × Int × Int × Unit) × Int × Unit) × Int × Bool × Bool × Unit) × List (Int × ByteArray × Int × Bool × Unit) × Int × List (Bool × Int × Int × Unit) × Unit) =>
  x.snd.snd.snd.fst) (Option.map (fun (x : ((List (ByteArray × List (List (Int × (Int × Int × Int × Int × Int × Int × Int × Int × Unit) × Int × Unit)) × Unit) × List ((Int × (Int × Int × Int × Int × Int × Int × Int × Int
  × Unit) × Int × Unit) × List Int × Unit) × Int × List Int × Unit) × Int × List ((Int × (Int × Int × Int × Int × Int × Int × Int × Int × Unit) × Int × Unit) × Int × Int × Int × Bool × Unit) × List (Int × (Int × (Int ×
  Int × Int × Int × Int × Int × Int × Int × Unit) × Int × Unit) × Int × Bool × Bool × Unit) × List (Int × ByteArray × Int × Bool × Unit) × Int × List (Bool × Int × Int × Unit) × Unit) × Unit) => x.fst) x.fst)) =
  Bool.true) ∧ Wr ((!Decidable.decide (ixD (glW x.fst).snd.snd.snd.fst x.snd.fst < (0 : Int))) = Bool.true → (0 : Int) ≤ ixD (glW x.fst).snd.snd.snd.fst x.snd.fst) ∧ Wr ((!Decidable.decide (ixD (glW x.fst).snd.snd.snd.fst
  x.snd.fst < (0 : Int))) = Bool.true → ixD (glW x.fst).snd.snd.snd.fst x.snd.fst < (↑(List.length (Option.getD (Option.map (fun (x : (List (ByteArray × List (List (Int × (Int × Int × Int × Int × Int × Int × Int × Int ×
  Unit) × Int × Unit)) × Unit) × List ((Int × (Int × Int × Int × Int × Int × Int × Int × Int × Unit) × Int × Unit) × List Int × Unit) × Int × List Int × Unit) × Int × List ((Int × (Int × Int × Int × Int × Int × Int × Int
  × Int × Unit) × Int × Unit) × Int × Int × Int × Bool × Unit) × List (Int × (Int × (Int × Int × Int × Int × Int × Int × Int × Int × Unit) × Int × Unit) × Int × Bool × Bool × Unit) × List (Int × ByteArray × Int × Bool ×
  Unit) × Int × List (Bool × Int × Int × Unit) × Unit) => x.snd.snd.snd.fst) (Option.map (fun (x : ((List (ByteArray × List (List (Int × (Int × Int × Int × Int × Int × Int × Int × Int × Unit) × Int × Unit)) × Unit) × List
  ((Int × (Int × Int × Int × Int × Int × Int × Int × Int × Unit) × Int × Unit) × List Int × Unit) × Int × List Int × Unit) × Int × List ((Int × (Int × Int × Int × Int × Int × Int × Int × Int × Unit) × Int × Unit) × Int ×
  Int × Int × Bool × Unit) × List (Int × (Int × (Int × Int × Int × Int × Int × Int × Int × Int × Unit) × Int × Unit) × Int × Bool × Bool × Unit) × List (Int × ByteArray × Int × Bool × Unit) × Int × List (Bool × Int × Int
  × Unit) × Unit) × Unit) => x.fst) x.fst)) (Ty.zero (Ty.sl DialT)))) : Int)) ∧ Wr ((!Decidable.decide (ixD (glW x.fst).snd.snd.snd.fst x.snd.fst < (0 : Int))) = Bool.true → Bool.true = Bool.true) ∧ Wr ((!Decidable.decide
  (ixD (glW x.fst).snd.snd.snd.fst x.snd.fst < (0 : Int))) = Bool.true → Bool.true = Bool.true) ∧ bcase (Decidable.decide (ixD (glW x.fst).snd.snd.snd.fst x.snd.fst < (0 : Int)) || (List.getD (Option.getD (Option.map (fun
  (x : (List (ByteArray × List (List (Int × (Int × Int × Int × Int × Int × Int × Int × Int × Unit) × Int × Unit)) × Unit) × List ((Int × (Int × Int × Int × Int × Int × Int × Int × Int × Unit) × Int × Unit) × List Int ×
  Unit) × Int × List Int × Unit) × Int × List ((Int × (Int × Int × Int × Int × Int × Int × Int × Int × Unit) × Int × Unit) × Int × Int × Int × Bool × Unit) × List (Int × (Int × (Int × Int × Int × Int × Int × Int × Int ×
  Int × Unit) × Int × Unit) × Int × Bool × Bool × Unit) × List (Int × ByteArray × Int × Bool × Unit) × Int × List (Bool × Int × Int × Unit) × Unit) => x.snd.snd.snd.fst) (Option.map (fun (x : ((List (ByteArray × List
  (List (Int × (Int × Int × Int × Int × Int × Int × Int × Int × Unit) × Int × Unit)) × Unit) × List ((Int × (Int × Int × Int × Int × Int × Int × Int × Int × Unit) × Int × Unit) × List Int × Unit) × Int × List Int × Unit)
  × Int × List ((Int × (Int × Int × Int × Int × Int × Int × Int × Int × Unit) × Int × Unit) × Int × Int × Int × Bool × Unit) × List (Int × (Int × (Int × Int × Int × Int × Int × Int × Int × Int × Unit) × Int × Unit) × Int
  × Bool × Bool × Unit) × List (Int × ByteArray × Int × Bool × Unit) × Int × List (Bool × Int × Int × Unit) × Unit) × Unit) => x.fst) x.fst)) (Ty.zero (Ty.sl DialT))) (Int.toNat (ixD (glW x.fst).snd.snd.snd.fst
  x.snd.fst)) (Ty.zero DialT)).snd.snd.snd.snd.fst) ((Bool.false, ()) = (readyW (glW x.fst) x.snd.fst, ())) (Wr (Option.isSome x.fst = Bool.true) ∧ Wr (Option.isSome x.fst = Bool.true) ∧ Wr (Option.isSome (Option.map (fun
  (x : ((List (ByteArray × List (List (Int × (Int × Int × Int × Int × Int × Int × Int × Int × Unit) × Int × Unit)) × Unit) × List ((Int × (Int × Int × Int × Int × Int × Int × Int × Int × Unit) × Int × Unit) × List Int ×
  Unit) × Int × List Int × Unit) × Int × List ((Int × (Int × Int × Int × Int × Int × Int × Int × Int × Unit) × Int × Unit) × Int × Int × Int × Bool × Unit) × List (Int × (Int × (Int × Int × Int × Int × Int × Int × Int ×
  Int × Unit) × Int × Unit) × Int × Bool × Bool × Unit) × List (Int × ByteArray × Int × Bool × Unit) × Int × List (Bool × Int × Int × Unit) × Unit) × Unit) => x.fst) x.fst) = Bool.true) ∧ Wr (Option.isSome (Option.map
  (fun (x : (List (ByteArray × List (List (Int × (Int × Int × Int × Int × Int × Int × Int × Int × Unit) × Int × Unit)) × Unit) × List ((Int × (Int × Int × Int × Int × Int × Int × Int × Int × Unit) × Int × Unit) × List Int
  × Unit) × Int × List Int × Unit) × Int × List ((Int × (Int × Int × Int × Int × Int × Int × Int × Int × Unit) × Int × Unit) × Int × Int × Int × Bool × Unit) × List (Int × (Int × (Int × Int × Int × Int × Int × Int × Int ×
  Int × Unit) × Int × Unit) × Int × Bool × Bool × Unit) × List (Int × ByteArray × Int × Bool × Unit) × Int × List (Bool × Int × Int × Unit) × Unit) => x.snd.snd.snd.fst) (Option.map (fun (x : ((List (ByteArray × List
  (List (Int × (Int × Int × Int × Int × Int × Int × Int × Int × Unit) × Int × Unit)) × Unit) × List ((Int × (Int × Int × Int × Int × Int × Int × Int × Int × Unit) × Int × Unit) × List Int × Unit) × Int × List Int × Unit)
  × Int × List ((Int × (Int × Int × Int × Int × Int × Int × Int × Int × Unit) × Int × Unit) × Int × Int × Int × Bool × Unit) × List (Int × (Int × (Int × Int × Int × Int × Int × Int × Int × Int × Unit) × Int × Unit) × Int
  × Bool × Bool × Unit) × List (Int × ByteArray × Int × Bool × Unit) × Int × List (Bool × Int × Int × Unit) × Unit) × Unit) => x.fst) x.fst)) = Bool.true) ∧ Wr ((0 : Int) ≤ ixD (glW x.fst).snd.snd.snd.fst x.snd.fst) ∧ Wr
  (ixD (glW x.fst).snd.snd.snd.fst x.snd.fst < (↑(List.length (Option.getD (Option.map (fun (x : (List (ByteArray × List (List (Int × (Int × Int × Int × Int × Int × Int × Int × Int × Unit) × Int × Unit)) × Unit) × List
  ((Int × (Int × Int × Int × Int × Int × Int × Int × Int × Unit) × Int × Unit) × List Int × Unit) × Int × List Int × Unit) × Int × List ((Int × (Int × Int × Int × Int × Int × Int × Int × Int × Unit) × Int × Unit) × Int ×
  Int × Int × Bool × Unit) × List (Int × (Int × (Int × Int × Int × Int × Int × Int × Int × Int × Unit) × Int × Unit) × Int × Bool × Bool × Unit) × List (Int × ByteArray × Int × Bool × Unit) × Int × List (Bool × Int × Int
  × Unit) × Unit) => x.snd.snd.snd.fst) (Option.map (fun (x : ((List (ByteArray × List (List (Int × (Int × Int × Int × Int × Int × Int × Int × Int × Unit) × Int × Unit)) × Unit) × List ((Int × (Int × Int × Int × Int × Int
  × Int × Int × Int × Unit) × Int × Unit) × List Int × Unit) × Int × List Int × Unit) × Int × List ((Int × (Int × Int × Int × Int × Int × Int × Int × Int × Unit) × Int × Unit) × Int × Int × Int × Bool × Unit) × List (Int
  × (Int × (Int × Int × Int × Int × Int × Int × Int × Int × Unit) × Int × Unit) × Int × Bool × Bool × Unit) × List (Int × ByteArray × Int × Bool × Unit) × Int × List (Bool × Int × Int × Unit) × Unit) × Unit) => x.fst)
  x.fst)) (Ty.zero (Ty.sl DialT)))) : Int)) ∧ Wr (Bool.true = Bool.true) ∧ bcase (Decidable.decide ((List.getD (Option.getD (Option.map (fun (x : (List (ByteArray × List (List (Int × (Int × Int × Int × Int × Int × Int ×
  Int × Int × Unit) × Int × Unit)) × Unit) × List ((Int × (Int × Int × Int × Int × Int × Int × Int × Int × Unit) × Int × Unit) × List Int × Unit) × Int × List Int × Unit) × Int × List ((Int × (Int × Int × Int × Int × Int
  × Int × Int × Int × Unit) × Int × Unit) × Int × Int × Int × Bool × Unit) × List (Int × (Int × (Int × Int × Int × Int × Int × Int × Int × Int × Unit) × Int × Unit) × Int × Bool × Bool × Unit) × List (Int × ByteArray ×
  Int × Bool × Unit) × Int × List (Bool × Int × Int × Unit) × Unit) => x.snd.snd.snd.fst) (Option.map (fun (x : ((List (ByteArray × List (List (Int × (Int × Int × Int × Int × Int × Int × Int × Int × Unit) × Int × Unit)) ×
  Unit) × List ((Int × (Int × Int × Int × Int × Int × Int × Int × Int × Unit) × Int × Unit) × List Int × Unit) × Int × List Int × Unit) × Int × List ((Int × (Int × Int × Int × Int × Int × Int × Int × Int × Unit) × Int ×
  Unit) × Int × Int × Int × Bool × Unit) × List (Int × (Int × (Int × Int × Int × Int × Int × Int × Int × Int × Unit) × Int × Unit) × Int × Bool × Bool × Unit) × List (Int × ByteArray × Int × Bool × Unit) × Int × List
  (Bool × Int × Int × Unit) × Unit) × Unit) => x.fst) x.fst)) (Ty.zero (Ty.sl DialT))) (Int.toNat (ixD (glW x.fst).snd.snd.snd.fst x.snd.fst)) (Ty.zero DialT)).snd.snd.fst = (0 : Int))) (bcase (Decidable.decide
  ((List.getD (Option.getD (Option.map (fun (x : (List (ByteArray × List (List (Int × (Int × Int × Int × Int × Int × Int × Int × Int × Unit) × Int × Unit)) × Unit) × List ((Int × (Int × Int × Int × Int × Int × Int × Int ×
  Int × Unit) × Int × Unit) × List Int × Unit) × Int × List Int × Unit) × Int × List ((Int × (Int × Int × Int × Int × Int × Int × Int × Int × Unit) × Int × Unit) × Int × Int × Int × Bool × Unit) × List (Int × (Int × (Int
  × Int × Int × Int × Int × Int × Int × Int × Unit) × Int × Unit) × Int × Bool × Bool × Unit) × List (Int × ByteArray × Int × Bool × Unit) × Int × List (Bool × Int × Int × Unit) × Unit) => x.snd.snd.snd.fst) (Option.map
  (fun (x : ((List (ByteArray × List (List (Int × (Int × Int × Int × Int × Int × Int × Int × Int × Unit) × Int × Unit)) × Unit) × List ((Int × (Int × Int × Int × Int × Int × Int × Int × Int × Unit) × Int × Unit) × List
  Int × Unit) × Int × List Int × Unit) × Int × List ((Int × (Int × Int × Int × Int × Int × Int × Int × Int × Unit) × Int × Unit) × Int × Int × Int × Bool × Unit) × List (Int × (Int × (Int × Int × Int × Int × Int × Int ×
  Int × Int × Unit) × Int × Unit) × Int × Bool × Bool × Unit) × List (Int × ByteArray × Int × Bool × Unit) × Int × List (Bool × Int × Int × Unit) × Unit) × Unit) => x.fst) x.fst)) (Ty.zero (Ty.sl DialT))) (Int.toNat (ixD
  (glW x.fst).snd.snd.snd.fst x.snd.fst)) (Ty.zero DialT)).snd.snd.fst = (0 : Int))) ((Bool.true, ()) = (readyW (glW x.fst) x.snd.fst, ())) (bcase (Decidable.decide ((List.getD (Option.getD (Option.map (fun (x : (List
  (ByteArray × List (List (Int × (Int × Int × Int × Int × Int × Int × Int × Int × Unit) × Int × Unit)) × Unit) × List ((Int × (Int × Int × Int × Int × Int × Int × Int × Int × Unit) × Int × Unit) × List Int × Unit) × Int ×
  List Int × Unit) × Int × List ((Int × (Int × Int × Int × Int × Int × Int × Int × Int × Unit) × Int × Unit) × Int × Int × Int × Bool × Unit) × List (Int × (Int × (Int × Int × Int × Int × Int × Int × Int × Int × Unit) ×
  Int × Unit) × Int × Bool × Bool × Unit) × List (Int × ByteArray × Int × Bool × Unit) × Int × List (Bool × Int × Int × Unit) × Unit) => x.snd.snd.snd.fst) (Option.map (fun (x : ((List (ByteArray × List (List (Int × (Int
  × Int × Int × Int × Int × Int × Int × Int × Unit) × Int × Unit)) × Unit) × List ((Int × (Int × Int × Int × Int × Int × Int × Int × Int × Unit) × Int × Unit) × List Int × Unit) × Int × List Int × Unit) × Int × List ((Int
  × (Int × Int × Int × Int × Int × Int × Int × Int × Unit) × Int × Unit) × Int × Int × Int × Bool × Unit) × List (Int × (Int × (Int × Int × Int × Int × Int × Int × Int × Int × Unit) × Int × Unit) × Int × Bool × Bool ×
  Unit) × List (Int × ByteArray × Int × Bool × Unit) × Int × List (Bool × Int × Int × Unit) × Unit) × Unit) => x.fst) x.fst)) (Ty.zero (Ty.sl DialT))) (Int.toNat (ixD (glW x.fst).snd.snd.snd.fst x.snd.fst)) (Ty.zero
  DialT)).snd.snd.fst = (2 : Int))) (((List.getD (Option.getD (Option.map (fun (x : (List (ByteArray × List (List (Int × (Int × Int × Int × Int × Int × Int × Int × Int × Unit) × Int × Unit)) × Unit) × List ((Int × (Int ×
  Int × Int × Int × Int × Int × Int × Int × Unit) × Int × Unit) × List Int × Unit) × Int × List Int × Unit) × Int × List ((Int × (Int × Int × Int × Int × Int × Int × Int × Int × Unit) × Int × Unit) × Int × Int × Int ×
  Bool × Unit) × List (Int × (Int × (Int × Int × Int × Int × Int × Int × Int × Int × Unit) × Int × Unit) × Int × Bool × Bool × Unit) × List (Int × ByteArray × Int × Bool × Unit) × Int × List (Bool × Int × Int × Unit) ×
  Unit) => x.snd.snd.snd.fst) (Option.map (fun (x : ((List (ByteArray × List (List (Int × (Int × Int × Int × Int × Int × Int × Int × Int × Unit) × Int × Unit)) × Unit) × List ((Int × (Int × Int × Int × Int × Int × Int ×
  Int × Int × Unit) × Int × Unit) × List Int × Unit) × Int × List Int × Unit) × Int × List ((Int × (Int × Int × Int × Int × Int × Int × Int × Int × Unit) × Int × Unit) × Int × Int × Int × Bool × Unit) × List (Int × (Int ×
  (Int × Int × Int × Int × Int × Int × Int × Int × Unit) × Int × Unit) × Int × Bool × Bool × Unit) × List (Int × ByteArray × Int × Bool × Unit) × Int × List (Bool × Int × Int × Unit) × Unit) × Unit) => x.fst) x.fst))
  (Ty.zero (Ty.sl DialT))) (Int.toNat (ixD (glW x.fst).snd.snd.snd.fst x.snd.fst)) (Ty.zero DialT)).snd.snd.snd.fst, ()) = (readyW (glW x.fst) x.snd.fst, ())) ((Bool.false, ()) = (readyW (glW x.fst) x.snd.fst, ()))))
  (bcase (Decidable.decide ((List.getD (Option.getD (Option.map (fun (x : (List (ByteArray × List (List (Int × (Int × Int × Int × Int × Int × Int × Int × Int × Unit) × Int × Unit)) × Unit) × List ((Int × (Int × Int × Int
  × Int × Int × Int × Int × Int × Unit) × Int × Unit) × List Int × Unit) × Int × List Int × Unit) × Int × List ((Int × (Int × Int × Int × Int × Int × Int × Int × Int × Unit) × Int × Unit) × Int × Int × Int × Bool × Unit)
  × List (Int × (Int × (Int × Int × Int × Int × Int × Int × Int × Int × Unit) × Int × Unit) × Int × Bool × Bool × Unit) × List (Int × ByteArray × Int × Bool × Unit) × Int × List (Bool × Int × Int × Unit) × Unit) =>
  x.snd.snd.snd.fst) (Option.map (fun (x : ((List (ByteArray × List (List (Int × (Int × Int × Int × Int × Int × Int × Int × Int × Unit) × Int × Unit)) × Unit) × List ((Int × (Int × Int × Int × Int × Int × Int × Int × Int
  × Unit) × Int × Unit) × List Int × Unit) × Int × List Int × Unit) × Int × List ((Int × (Int × Int × Int × Int × Int × Int × Int × Int × Unit) × Int × Unit) × Int × Int × Int × Bool × Unit) × List (Int × (Int × (Int ×
  Int × Int × Int × Int × Int × Int × Int × Unit) × Int × Unit) × Int × Bool × Bool × Unit) × List (Int × ByteArray × Int × Bool × Unit) × Int × List (Bool × Int × Int × Unit) × Unit) × Unit) => x.fst) x.fst)) (Ty.zero
  (Ty.sl DialT))) (Int.toNat (ixD (glW x.fst).snd.snd.snd.fst x.snd.fst)) (Ty.zero DialT)).snd.snd.fst = (1 : Int))) ((Bool.true, ()) = (readyW (glW x.fst) x.snd.fst, ())) (bcase (Decidable.decide ((List.getD (Option.getD
  (Option.map (fun (x : (List (ByteArray × List (List (Int × (Int × Int × Int × Int × Int × Int × Int × Int × Unit) × Int × Unit)) × Unit) × List ((Int × (Int × Int × Int × Int × Int × Int × Int × Int × Unit) × Int ×
  Unit) × List Int × Unit) × Int × List Int × Unit) × Int × List ((Int × (Int × Int × Int × Int × Int × Int × Int × Int × Unit) × Int × Unit) × Int × Int × Int × Bool × Unit) × List (Int × (Int × (Int × Int × Int × Int ×
  Int × Int × Int × Int × Unit) × Int × Unit) × Int × Bool × Bool × Unit) × List (Int × ByteArray × Int × Bool × Unit) × Int × List (Bool × Int × Int × Unit) × Unit) => x.snd.snd.snd.fst) (Option.map (fun (x : ((List
  (ByteArray × List (List (Int × (Int × Int × Int × Int × Int × Int × Int × Int × Unit) × Int × Unit)) × Unit) × List ((Int × (Int × Int × Int × Int × Int × Int × Int × Int × Unit) × Int × Unit) × List Int × Unit) × Int ×
  List Int × Unit) × Int × List ((Int × (Int × Int × Int × Int × Int × Int × Int × Int × Unit) × Int × Unit) × Int × Int × Int × Bool × Unit) × List (Int × (Int × (Int × Int × Int × Int × Int × Int × Int × Int × Unit) ×
  Int × Unit) × Int × Bool × Bool × Unit) × List (Int × ByteArray × Int × Bool × Unit) × Int × List (Bool × Int × Int × Unit) × Unit) × Unit) => x.fst) x.fst)) (Ty.zero (Ty.sl DialT))) (Int.toNat (ixD (glW
  x.fst).snd.snd.snd.fst x.snd.fst)) (Ty.zero DialT)).snd.snd.fst = (2 : Int))) (((List.getD (Option.getD (Option.map (fun (x : (List (ByteArray × List (List (Int × (Int × Int × Int × Int × Int × Int × Int × Int × Unit) ×
  Int × Unit)) × Unit) × List ((Int × (Int × Int × Int × Int × Int × Int × Int × Int × Unit) × Int × Unit) × List Int × Unit) × Int × List Int × Unit) × Int × List ((Int × (Int × Int × Int × Int × Int × Int × Int × Int ×
  Unit) × Int × Unit) × Int × Int × Int × Bool × Unit) × List (Int × (Int × (Int × Int × Int × Int × Int × Int × Int × Int × Unit) × Int × Unit) × Int × Bool × Bool × Unit) × List (Int × ByteArray × Int × Bool × Unit) ×
  Int × List (Bool × Int × Int × Unit) × Unit) => x.snd.snd.snd.fst) (Option.map (fun (x : ((List (ByteArray × List (List (Int × (Int × Int × Int × Int × Int × Int × Int × Int × Unit) × Int × Unit)) × Unit) × List ((Int ×
  (Int × Int × Int × Int × Int × Int × Int × Int × Unit) × Int × Unit) × List Int × Unit) × Int × List Int × Unit) × Int × List ((Int × (Int × Int × Int × Int × Int × Int × Int × Int × Unit) × Int × Unit) × Int × Int ×
  Int × Bool × Unit) × List (Int × (Int × (Int × Int × Int × Int × Int × Int × Int × Int × Unit) × Int × Unit) × Int × Bool × Bool × Unit) × List (Int × ByteArray × Int × Bool × Unit) × Int × List (Bool × Int × Int ×
  Unit) × Unit) × Unit) => x.fst) x.fst)) (Ty.zero (Ty.sl DialT))) (Int.toNat (ixD (glW x.fst).snd.snd.snd.fst x.snd.fst)) (Ty.zero DialT)).snd.snd.snd.fst, ()) = (readyW (glW x.fst) x.snd.fst, ())) ((Bool.false, ()) =
  (readyW (glW x.fst) x.snd.fst, ())))))) := by kernel_rfl
theorem v17_eq : vcFn g17 300 Tryz.f17 cDial = ( ∀ (x : ((List (ByteArray × List (List (Int × (Int × Int × Int × Int × Int × Int × Int × Int × Unit) × Int × Unit)) × Unit) × List ((Int × (Int × Int × Int × Int × Int × Int × Int × Int × Unit) × Int × Unit) × List Int ×
  Unit) × Int × List Int × Unit) × Int × List ((Int × (Int × Int × Int × Int × Int × Int × Int × Int × Unit) × Int × Unit) × Int × Int × Int × Bool × Unit) × List (Int × (Int × (Int × Int × Int × Int × Int × Int × Int ×
  Int × Unit) × Int × Unit) × Int × Bool × Bool × Unit) × List (Int × ByteArray × Int × Bool × Unit) × Int × List (Bool × Int × Int × Unit) × Unit) × Int × (Int × (Int × Int × Int × Int × Int × Int × Int × Int × Unit) ×
  Int × Unit) × Unit), Wr (okW x.fst = Bool.true) → Wr (lenA (x.snd.snd.fst :: nilL (Int × (Int × Int × Int × Int × Int × Int × Int × Int × Unit) × Int × Unit)) = Bool.true) ∧ bcase (!Go.Ad.mayA (x.snd.snd.fst :: nilL
  (Int × (Int × Int × Int × Int × Int × Int × Int × Int × Unit) × Int × Unit))) ((x.fst, (20 : Int), ()) = (dialW x.fst x.snd.fst x.snd.snd.fst, dialE x.fst x.snd.fst x.snd.snd.fst, ())) (Wr (okG (Option.some (x.fst, ()))
  = Bool.true) ∧ bcase (Decidable.decide (ixD (glW (Option.some (x.fst, ()))).snd.snd.snd.fst x.snd.fst ≥ (0 : Int))) ((x.fst, (100 : Int), ()) = (dialW x.fst x.snd.fst x.snd.snd.fst, dialE x.fst x.snd.fst x.snd.snd.fst,
  ())) ((Wr (CntI (dlAd x.snd.snd.fst) x.fst.snd.snd.snd.fst (0 : Int) (0 : Int)) ∧ Wr ((0 : Int) = (0 : Int)) ∧ Wr ((0 : Int) = (0 : Int)) ∧ Wr (x.fst.snd.snd.snd.fst = x.fst.snd.snd.snd.fst) ∧ Wr (x.fst.snd.snd.snd.fst
  = x.fst.snd.snd.snd.fst) ∧ Wr ((↑(List.length x.fst.snd.snd.snd.fst) : Int) = (↑(List.length x.fst.snd.snd.snd.fst) : Int)) ∧ Wr (x.snd.snd.fst :: nilL (Int × (Int × Int × Int × Int × Int × Int × Int × Int × Unit) × Int
  × Unit) = x.snd.snd.fst :: nilL (Int × (Int × Int × Int × Int × Int × Int × Int × Int × Unit) × Int × Unit)) ∧ Wr (x.fst.fst.fst = x.fst.fst.fst) ∧ Wr (x.fst.fst.snd.fst = x.fst.fst.snd.fst) ∧ Wr (x.fst.fst.snd.snd.fst
  = x.fst.fst.snd.snd.fst) ∧ Wr (x.fst.fst.snd.snd.snd.fst = x.fst.fst.snd.snd.snd.fst) ∧ Wr (x.fst.snd.fst = x.fst.snd.fst) ∧ Wr (x.fst.snd.snd.fst = x.fst.snd.snd.fst) ∧ Wr (x.fst.snd.snd.snd.fst =
  x.fst.snd.snd.snd.fst) ∧ Wr (x.fst.snd.snd.snd.snd.fst = x.fst.snd.snd.snd.snd.fst) ∧ Wr (x.fst.snd.snd.snd.snd.snd.fst = x.fst.snd.snd.snd.snd.snd.fst) ∧ Wr (x.fst.snd.snd.snd.snd.snd.snd.fst =
  x.fst.snd.snd.snd.snd.snd.snd.fst) ∧ Wr ((0 : Int) = (0 : Int)) ∧ Wr ((0 : Int) = (0 : Int)) ∧ Wr ((0 : Int) = (0 : Int)) ∧ Wr (x.snd.snd.fst.fst = x.snd.snd.fst.fst) ∧ Wr (x.snd.snd.fst.snd.fst.fst =
  x.snd.snd.fst.snd.fst.fst) ∧ Wr (x.snd.snd.fst.snd.fst.snd.fst = x.snd.snd.fst.snd.fst.snd.fst) ∧ Wr (x.snd.snd.fst.snd.fst.snd.snd.fst = x.snd.snd.fst.snd.fst.snd.snd.fst) ∧ Wr (x.snd.snd.fst.snd.fst.snd.snd.snd.fst =
  x.snd.snd.fst.snd.fst.snd.snd.snd.fst) ∧ Wr (x.snd.snd.fst.snd.fst.snd.snd.snd.snd.fst = x.snd.snd.fst.snd.fst.snd.snd.snd.snd.fst) ∧ Wr (x.snd.snd.fst.snd.fst.snd.snd.snd.snd.snd.fst =
  x.snd.snd.fst.snd.fst.snd.snd.snd.snd.snd.fst) ∧ Wr (x.snd.snd.fst.snd.fst.snd.snd.snd.snd.snd.snd.fst = x.snd.snd.fst.snd.fst.snd.snd.snd.snd.snd.snd.fst) ∧ Wr (x.snd.snd.fst.snd.fst.snd.snd.snd.snd.snd.snd.snd.fst =
  x.snd.snd.fst.snd.fst.snd.snd.snd.snd.snd.snd.snd.fst) ∧ Wr (x.snd.snd.fst.snd.snd.fst = x.snd.snd.fst.snd.snd.fst) ∧ Wr (x.fst.fst.fst = x.fst.fst.fst) ∧ Wr (x.fst.fst.snd.fst = x.fst.fst.snd.fst) ∧ Wr
  (x.fst.fst.snd.snd.fst = x.fst.fst.snd.snd.fst) ∧ Wr (x.fst.fst.snd.snd.snd.fst = x.fst.fst.snd.snd.snd.fst) ∧ Wr (x.fst.snd.fst = x.fst.snd.fst) ∧ Wr (x.fst.snd.snd.fst = x.fst.snd.snd.fst) ∧ Wr (x.fst.snd.snd.snd.fst
  = x.fst.snd.snd.snd.fst) ∧ Wr (x.fst.snd.snd.snd.snd.fst = x.fst.snd.snd.snd.snd.fst) ∧ Wr (x.fst.snd.snd.snd.snd.snd.fst = x.fst.snd.snd.snd.snd.snd.fst) ∧ Wr (x.fst.snd.snd.snd.snd.snd.snd.fst =
  x.fst.snd.snd.snd.snd.snd.snd.fst)) ∧ ∀ (x_1 : Int × Int), Wr (CntI (dlAd x.snd.snd.fst) x.fst.snd.snd.snd.fst x_1.fst x_1.snd) → bcase (Decidable.decide (x_1.fst < (↑(List.length x.fst.snd.snd.snd.fst) : Int))) (Wr ((0
  : Int) ≤ x_1.fst) ∧ Wr (x_1.fst < (↑(List.length x.fst.snd.snd.snd.fst) : Int)) ∧ Wr (Bool.true = Bool.true) ∧ bcase (Ty.eqb (Ty.cons (Ty.int IntKind.i8) (Ty.cons (Ty.arr (8 : Nat) (Ty.int IntKind.u16)) (Ty.cons (Ty.int
  IntKind.i64) Ty.unit))) (List.getD x.fst.snd.snd.snd.fst (Int.toNat x_1.fst) (Ty.zero DialT)).snd.fst x.snd.snd.fst) (Wr (CntI (dlAd x.snd.snd.fst) x.fst.snd.snd.snd.fst (IntKind.wrap IntKind.i64 (x_1.fst + (1 : Int)))
  (IntKind.wrap IntKind.i64 (x_1.snd + (1 : Int)))) ∧ Wr (List.length x.fst.snd.snd.snd.fst - Int.toNat (IntKind.wrap IntKind.i64 (x_1.fst + (1 : Int))) < List.length x.fst.snd.snd.snd.fst - Int.toNat x_1.fst) ∧ Wr
  (IntKind.wrap IntKind.i64 (x_1.fst + (1 : Int)) = IntKind.wrap IntKind.i64 (x_1.fst + (1 : Int))) ∧ Wr (IntKind.wrap IntKind.i64 (x_1.snd + (1 : Int)) = IntKind.wrap IntKind.i64 (x_1.snd + (1 : Int))) ∧ Wr
  (x.fst.snd.snd.snd.fst = x.fst.snd.snd.snd.fst) ∧ Wr (x.fst.snd.snd.snd.fst = x.fst.snd.snd.snd.fst) ∧ Wr ((↑(List.length x.fst.snd.snd.snd.fst) : Int) = (↑(List.length x.fst.snd.snd.snd.fst) : Int)) ∧ Wr (x.snd.snd.fst
  :: nilL (Int × (Int × Int × Int × Int × Int × Int × Int × Int × Unit) × Int × Unit) = x.snd.snd.fst :: nilL (Int × (Int × Int × Int × Int × Int × Int × Int × Int × Unit) × Int × Unit)) ∧ Wr (x.fst.fst.fst =
  x.fst.fst.fst) ∧ Wr (x.fst.fst.snd.fst = x.fst.fst.snd.fst) ∧ Wr (x.fst.fst.snd.snd.fst = x.fst.fst.snd.snd.fst) ∧ Wr (x.fst.fst.snd.snd.snd.fst = x.fst.fst.snd.snd.snd.fst) ∧ Wr (x.fst.snd.fst = x.fst.snd.fst) ∧ Wr
  (x.fst.snd.snd.fst = x.fst.snd.snd.fst) ∧ Wr (x.fst.snd.snd.snd.fst = x.fst.snd.snd.snd.fst) ∧ Wr (x.fst.snd.snd.snd.snd.fst = x.fst.snd.snd.snd.snd.fst) ∧ Wr (x.fst.snd.snd.snd.snd.snd.fst =
  x.fst.snd.snd.snd.snd.snd.fst) ∧ Wr (x.fst.snd.snd.snd.snd.snd.snd.fst = x.fst.snd.snd.snd.snd.snd.snd.fst) ∧ Wr ((0 : Int) = (0 : Int)) ∧ Wr ((0 : Int) = (0 : Int)) ∧ Wr ((0 : Int) = (0 : Int)) ∧ Wr (x.snd.snd.fst.fst
  = x.snd.snd.fst.fst) ∧ Wr (x.snd.snd.fst.snd.fst.fst = x.snd.snd.fst.snd.fst.fst) ∧ Wr (x.snd.snd.fst.snd.fst.snd.fst = x.snd.snd.fst.snd.fst.snd.fst) ∧ Wr (x.snd.snd.fst.snd.fst.snd.snd.fst =
  x.snd.snd.fst.snd.fst.snd.snd.fst) ∧ Wr (x.snd.snd.fst.snd.fst.snd.snd.snd.fst = x.snd.snd.fst.snd.fst.snd.snd.snd.fst) ∧ Wr (x.snd.snd.fst.snd.fst.snd.snd.snd.snd.fst = x.snd.snd.fst.snd.fst.snd.snd.snd.snd.fst) ∧ Wr
  (x.snd.snd.fst.snd.fst.snd.snd.snd.snd.snd.fst = x.snd.snd.fst.snd.fst.snd.snd.snd.snd.snd.fst) ∧ Wr (x.snd.snd.fst.snd.fst.snd.snd.snd.snd.snd.snd.fst = x.snd.snd.fst.snd.fst.snd.snd.snd.snd.snd.snd.fst) ∧ Wr
  (x.snd.snd.fst.snd.fst.snd.snd.snd.snd.snd.snd.snd.fst = x.snd.snd.fst.snd.fst.snd.snd.snd.snd.snd.snd.snd.fst) ∧ Wr (x.snd.snd.fst.snd.snd.fst = x.snd.snd.fst.snd.snd.fst) ∧ Wr (x.fst.fst.fst = x.fst.fst.fst) ∧ Wr
  (x.fst.fst.snd.fst = x.fst.fst.snd.fst) ∧ Wr (x.fst.fst.snd.snd.fst = x.fst.fst.snd.snd.fst) ∧ Wr (x.fst.fst.snd.snd.snd.fst = x.fst.fst.snd.snd.snd.fst) ∧ Wr (x.fst.snd.fst = x.fst.snd.fst) ∧ Wr (x.fst.snd.snd.fst =
  x.fst.snd.snd.fst) ∧ Wr (x.fst.snd.snd.snd.fst = x.fst.snd.snd.snd.fst) ∧ Wr (x.fst.snd.snd.snd.snd.fst = x.fst.snd.snd.snd.snd.fst) ∧ Wr (x.fst.snd.snd.snd.snd.snd.fst = x.fst.snd.snd.snd.snd.snd.fst) ∧ Wr
  (x.fst.snd.snd.snd.snd.snd.snd.fst = x.fst.snd.snd.snd.snd.snd.snd.fst)) (Wr (CntI (dlAd x.snd.snd.fst) x.fst.snd.snd.snd.fst (IntKind.wrap IntKind.i64 (x_1.fst + (1 : Int))) x_1.snd) ∧ Wr (List.length
  x.fst.snd.snd.snd.fst - Int.toNat (IntKind.wrap IntKind.i64 (x_1.fst + (1 : Int))) < List.length x.fst.snd.snd.snd.fst - Int.toNat x_1.fst) ∧ Wr (IntKind.wrap IntKind.i64 (x_1.fst + (1 : Int)) = IntKind.wrap IntKind.i64
  (x_1.fst + (1 : Int))) ∧ Wr (x_1.snd = x_1.snd) ∧ Wr (x.fst.snd.snd.snd.fst = x.fst.snd.snd.snd.fst) ∧ Wr (x.fst.snd.snd.snd.fst = x.fst.snd.snd.snd.fst) ∧ Wr ((↑(List.length x.fst.snd.snd.snd.fst) : Int) =
  (↑(List.length x.fst.snd.snd.snd.fst) : Int)) ∧ Wr (x.snd.snd.fst :: nilL (Int × (Int × Int × Int × Int × Int × Int × Int × Int × Unit) × Int × Unit) = x.snd.snd.fst :: nilL (Int × (Int × Int × Int × Int × Int × Int ×
  Int × Int × Unit) × Int × Unit)) ∧ Wr (x.fst.fst.fst = x.fst.fst.fst) ∧ Wr (x.fst.fst.snd.fst = x.fst.fst.snd.fst) ∧ Wr (x.fst.fst.snd.snd.fst = x.fst.fst.snd.snd.fst) ∧ Wr (x.fst.fst.snd.snd.snd.fst =
  x.fst.fst.snd.snd.snd.fst) ∧ Wr (x.fst.snd.fst = x.fst.snd.fst) ∧ Wr (x.fst.snd.snd.fst = x.fst.snd.snd.fst) ∧ Wr (x.fst.snd.snd.snd.fst = x.fst.snd.snd.snd.fst) ∧ Wr (x.fst.snd.snd.snd.snd.fst =
  x.fst.snd.snd.snd.snd.fst) ∧ Wr (x.fst.snd.snd.snd.snd.snd.fst = x.fst.snd.snd.snd.snd.snd.fst) ∧ Wr (x.fst.snd.snd.snd.snd.snd.snd.fst = x.fst.snd.snd.snd.snd.snd.snd.fst) ∧ Wr ((0 : Int) = (0 : Int)) ∧ Wr ((0 : Int) =
  (0 : Int)) ∧ Wr ((0 : Int) = (0 : Int)) ∧ Wr (x.snd.snd.fst.fst = x.snd.snd.fst.fst) ∧ Wr (x.snd.snd.fst.snd.fst.fst = x.snd.snd.fst.snd.fst.fst) ∧ Wr (x.snd.snd.fst.snd.fst.snd.fst = x.snd.snd.fst.snd.fst.snd.fst) ∧ Wr
  (x.snd.snd.fst.snd.fst.snd.snd.fst = x.snd.snd.fst.snd.fst.snd.snd.fst) ∧ Wr (x.snd.snd.fst.snd.fst.snd.snd.snd.fst = x.snd.snd.fst.snd.fst.snd.snd.snd.fst) ∧ Wr (x.snd.snd.fst.snd.fst.snd.snd.snd.snd.fst =
  x.snd.snd.fst.snd.fst.snd.snd.snd.snd.fst) ∧ Wr (x.snd.snd.fst.snd.fst.snd.snd.snd.snd.snd.fst = x.snd.snd.fst.snd.fst.snd.snd.snd.snd.snd.fst) ∧ Wr (x.snd.snd.fst.snd.fst.snd.snd.snd.snd.snd.snd.fst =
  x.snd.snd.fst.snd.fst.snd.snd.snd.snd.snd.snd.fst) ∧ Wr (x.snd.snd.fst.snd.fst.snd.snd.snd.snd.snd.snd.snd.fst = x.snd.snd.fst.snd.fst.snd.snd.snd.snd.snd.snd.snd.fst) ∧ Wr (x.snd.snd.fst.snd.snd.fst =
  x.snd.snd.fst.snd.snd.fst) ∧ Wr (x.fst.fst.fst = x.fst.fst.fst) ∧ Wr (x.fst.fst.snd.fst = x.fst.fst.snd.fst) ∧ Wr (x.fst.fst.snd.snd.fst = x.fst.fst.snd.snd.fst) ∧ Wr (x.fst.fst.snd.snd.snd.fst =
  x.fst.fst.snd.snd.snd.fst) ∧ Wr (x.fst.snd.fst = x.fst.snd.fst) ∧ Wr (x.fst.snd.snd.fst = x.fst.snd.snd.fst) ∧ Wr (x.fst.snd.snd.snd.fst = x.fst.snd.snd.snd.fst) ∧ Wr (x.fst.snd.snd.snd.snd.fst =
  x.fst.snd.snd.snd.snd.fst) ∧ Wr (x.fst.snd.snd.snd.snd.snd.fst = x.fst.snd.snd.snd.snd.snd.fst) ∧ Wr (x.fst.snd.snd.snd.snd.snd.snd.fst = x.fst.snd.snd.snd.snd.snd.snd.fst))) (Wr True ∧ Wr (okP x.fst.fst = Bool.true) ∧
  Wr ((List.length x.fst.snd.snd.snd.fst + List.length ((x.snd.fst, x.snd.snd.fst, fateF x.fst.fst x.snd.snd.fst x_1.snd, Bool.false, Bool.false, ()) :: nilL (Int × (Int × (Int × Int × Int × Int × Int × Int × Int × Int ×
  Unit) × Int × Unit) × Int × Bool × Bool × Unit))) * (48 : Nat) ≤ (140737488355328 : Nat)) ∧ Wr ((0 : Nat) < List.length ((x.snd.fst, x.snd.snd.fst, fateF x.fst.fst x.snd.snd.fst x_1.snd, Bool.false, Bool.false, ()) ::
  nilL (Int × (Int × (Int × Int × Int × Int × Int × Int × Int × Int × Unit) × Int × Unit) × Int × Bool × Bool × Unit))) ∧ ((x.fst.fst, x.fst.snd.fst, x.fst.snd.snd.fst, x.fst.snd.snd.snd.fst ++ (x.snd.fst, x.snd.snd.fst,
  fateF x.fst.fst x.snd.snd.fst x_1.snd, Bool.false, Bool.false, ()) :: nilL (Int × (Int × (Int × Int × Int × Int × Int × Int × Int × Int × Unit) × Int × Unit) × Int × Bool × Bool × Unit), x.fst.snd.snd.snd.snd), (0 :
  Int), ()) = (dialW x.fst x.snd.fst x.snd.snd.fst, dialE x.fst x.snd.fst x.snd.snd.fst, ()))))) := by kernel_rfl
theorem v18_eq : vcFn g18 300 Tryz.f18 cCut = ( ∀ (x : ((List (ByteArray × List (List (Int × (Int × Int × Int × Int × Int × Int × Int × Int × Unit) × Int × Unit)) × Unit) × List ((Int × (Int × Int × Int × Int × Int × Int × Int × Int × Unit) × Int × Unit) × List Int ×
  Unit) × Int × List Int × Unit) × Int × List ((Int × (Int × Int × Int × Int × Int × Int × Int × Int × Unit) × Int × Unit) × Int × Int × Int × Bool × Unit) × List (Int × (Int × (Int × Int × Int × Int × Int × Int × Int ×
  Int × Unit) × Int × Unit) × Int × Bool × Bool × Unit) × List (Int × ByteArray × Int × Bool × Unit) × Int × List (Bool × Int × Int × Unit) × Unit) × Int × Unit), Wr (okW x.fst = Bool.true) → Wr (okG (Option.some (x.fst,
  ())) = Bool.true) ∧ Wr (Decidable.decide (ixD (glW (Option.some (x.fst, ()))).snd.snd.snd.fst x.snd.fst ≥ (0 : Int)) = Bool.true → (0 : Int) ≤ ixD (glW (Option.some (x.fst, ()))).snd.snd.snd.fst x.snd.fst) ∧ Wr
  (Decidable.decide (ixD (glW (Option.some (x.fst, ()))).snd.snd.snd.fst x.snd.fst ≥ (0 : Int)) = Bool.true → ixD (glW (Option.some (x.fst, ()))).snd.snd.snd.fst x.snd.fst < (↑(List.length x.fst.snd.snd.snd.fst) : Int)) ∧
  Wr (Decidable.decide (ixD (glW (Option.some (x.fst, ()))).snd.snd.snd.fst x.snd.fst ≥ (0 : Int)) = Bool.true → Bool.true = Bool.true) ∧ Wr (Decidable.decide (ixD (glW (Option.some (x.fst, ()))).snd.snd.snd.fst x.snd.fst
  ≥ (0 : Int)) = Bool.true → Bool.true = Bool.true) ∧ bcase (Decidable.decide (ixD (glW (Option.some (x.fst, ()))).snd.snd.snd.fst x.snd.fst ≥ (0 : Int)) && !(List.getD x.fst.snd.snd.snd.fst (Int.toNat (ixD (glW
  (Option.some (x.fst, ()))).snd.snd.snd.fst x.snd.fst)) (Ty.zero DialT)).snd.snd.snd.snd.fst) (Wr (Decidable.decide (List.length x.fst.snd.snd.snd.fst * (48 : Nat) ≤ (140737488355328 : Nat)) = Bool.true) ∧ Wr ((0 : Int)
  ≤ ixD (glW (Option.some (x.fst, ()))).snd.snd.snd.fst x.snd.fst) ∧ Wr (ixD (glW (Option.some (x.fst, ()))).snd.snd.snd.fst x.snd.fst < (↑(List.length x.fst.snd.snd.snd.fst) : Int)) ∧ ((x.fst.fst, x.fst.snd.fst,
  x.fst.snd.snd.fst, List.set x.fst.snd.snd.snd.fst (Int.toNat (ixD (glW (Option.some (x.fst, ()))).snd.snd.snd.fst x.snd.fst)) ((List.getD x.fst.snd.snd.snd.fst (Int.toNat (ixD (glW (Option.some (x.fst,
  ()))).snd.snd.snd.fst x.snd.fst)) (Ty.zero DialT)).fst, (List.getD x.fst.snd.snd.snd.fst (Int.toNat (ixD (glW (Option.some (x.fst, ()))).snd.snd.snd.fst x.snd.fst)) (Ty.zero DialT)).snd.fst, (List.getD
  x.fst.snd.snd.snd.fst (Int.toNat (ixD (glW (Option.some (x.fst, ()))).snd.snd.snd.fst x.snd.fst)) (Ty.zero DialT)).snd.snd.fst, Bool.true, (List.getD x.fst.snd.snd.snd.fst (Int.toNat (ixD (glW (Option.some (x.fst,
  ()))).snd.snd.snd.fst x.snd.fst)) (Ty.zero DialT)).snd.snd.snd.snd), x.fst.snd.snd.snd.snd), ()) = (cutW x.fst x.snd.fst, ())) ((x.fst, ()) = (cutW x.fst x.snd.fst, ()))) := by kernel_rfl
theorem v20_eq : vcFn g20 300 Tryz.f20 cReady = ( ∀ (x : ((List (ByteArray × List (List (Int × (Int × Int × Int × Int × Int × Int × Int × Int × Unit) × Int × Unit)) × Unit) × List ((Int × (Int × Int × Int × Int × Int × Int × Int × Int × Unit) × Int × Unit) × List Int ×
  Unit) × Int × List Int × Unit) × Int × List ((Int × (Int × Int × Int × Int × Int × Int × Int × Int × Unit) × Int × Unit) × Int × Int × Int × Bool × Unit) × List (Int × (Int × (Int × Int × Int × Int × Int × Int × Int ×
  Int × Unit) × Int × Unit) × Int × Bool × Bool × Unit) × List (Int × ByteArray × Int × Bool × Unit) × Int × List (Bool × Int × Int × Unit) × Unit) × Int × Unit), Wr (okW x.fst = Bool.true) → Wr (okG (Option.some (x.fst,
  ())) = Bool.true) ∧ (readyW (glW (Option.some (x.fst, ()))) x.snd.fst, ()) = (readyW x.fst x.snd.fst, ())) := by kernel_rfl
theorem v56_eq : vcFn g56 300 Tryz.f56 cOpen = ( ∀ (x : List ((Int × (Int × Int × Int × Int × Int × Int × Int × Int × Unit) × Int × Unit) × Int × Int × Int × Bool × Unit) × List (Bool × Int × Int × Unit) × (Int × (Int × Int × Int × Int × Int × Int × Int × Int × Unit) ×
  Int × Unit) × Int × Int × Unit), Wr (okSM x.fst x.snd.fst = Bool.true) → Wr True ∧ Wr ((List.length x.fst + List.length ((x.snd.snd.fst, x.snd.snd.snd.fst, x.snd.snd.snd.snd.fst, (0 : Int), Bool.false, ()) :: nilL ((Int
  × (Int × Int × Int × Int × Int × Int × Int × Int × Unit) × Int × Unit) × Int × Int × Int × Bool × Unit))) * (64 : Nat) ≤ (140737488355328 : Nat)) ∧ Wr ((0 : Nat) < List.length ((x.snd.snd.fst, x.snd.snd.snd.fst,
  x.snd.snd.snd.snd.fst, (0 : Int), Bool.false, ()) :: nilL ((Int × (Int × Int × Int × Int × Int × Int × Int × Int × Unit) × Int × Unit) × Int × Int × Int × Bool × Unit))) ∧ Wr True ∧ Wr ((List.length x.snd.fst +
  List.length ((Bool.false, (↑(List.length x.fst) : Int), x.snd.snd.snd.snd) :: nilL (Bool × Int × Int × Unit))) * (24 : Nat) ≤ (140737488355328 : Nat)) ∧ Wr ((0 : Nat) < List.length ((Bool.false, (↑(List.length x.fst) :
  Int), x.snd.snd.snd.snd) :: nilL (Bool × Int × Int × Unit))) ∧ (x.fst ++ (x.snd.snd.fst, x.snd.snd.snd.fst, x.snd.snd.snd.snd.fst, (0 : Int), Bool.false, ()) :: nilL ((Int × (Int × Int × Int × Int × Int × Int × Int ×
  Int × Unit) × Int × Unit) × Int × Int × Int × Bool × Unit), x.snd.fst ++ (Bool.false, (↑(List.length x.fst) : Int), x.snd.snd.snd.snd) :: nilL (Bool × Int × Int × Unit), (↑(List.length x.fst) : Int), ()) = (addS x.fst
  x.snd.snd.fst x.snd.snd.snd.fst x.snd.snd.snd.snd.fst, addM x.snd.fst Bool.false (lenS x.fst) x.snd.snd.snd.snd.fst, lenS x.fst, ())) := by kernel_rfl
theorem v21_eq : vcFn g21 300 Tryz.f21 cEnd = ( ∀ (x : ((List (ByteArray × List (List (Int × (Int × Int × Int × Int × Int × Int × Int × Int × Unit) × Int × Unit)) × Unit) × List ((Int × (Int × Int × Int × Int × Int × Int × Int × Int × Unit) × Int × Unit) × List Int ×
  Unit) × Int × List Int × Unit) × Int × List ((Int × (Int × Int × Int × Int × Int × Int × Int × Int × Unit) × Int × Unit) × Int × Int × Int × Bool × Unit) × List (Int × (Int × (Int × Int × Int × Int × Int × Int × Int ×
  Int × Unit) × Int × Unit) × Int × Bool × Bool × Unit) × List (Int × ByteArray × Int × Bool × Unit) × Int × List (Bool × Int × Int × Unit) × Unit) × Int × Unit), Wr (okW x.fst = Bool.true) → Wr (okG (Option.some (x.fst,
  ())) = Bool.true) ∧ bcase (!readyW (glW (Option.some (x.fst, ()))) x.snd.fst) ((x.fst, ((0 : Int), (0 : Int), (0 : Int), (0 : Int), ByteArray.mk (List.toArray (nilL UInt8)), (0 : Int), ()), (100 : Int), ()) = (endW
  x.fst x.snd.fst, endM x.fst x.snd.fst, endE x.fst x.snd.fst, ())) (Wr (okG (Option.some (x.fst, ())) = Bool.true) ∧ Wr (Decidable.decide (List.length x.fst.snd.snd.snd.fst * (48 : Nat) ≤ (140737488355328 : Nat)) =
  Bool.true) ∧ Wr ((0 : Int) ≤ ixD (glW (Option.some (x.fst, ()))).snd.snd.snd.fst x.snd.fst) ∧ Wr (ixD (glW (Option.some (x.fst, ()))).snd.snd.snd.fst x.snd.fst < (↑(List.length x.fst.snd.snd.snd.fst) : Int)) ∧ Wr ((0 :
  Int) ≤ ixD (glW (Option.some (x.fst, ()))).snd.snd.snd.fst x.snd.fst) ∧ Wr (ixD (glW (Option.some (x.fst, ()))).snd.snd.snd.fst x.snd.fst < (↑(List.length (List.set x.fst.snd.snd.snd.fst (Int.toNat (ixD (glW
  (Option.some (x.fst, ()))).snd.snd.snd.fst x.snd.fst)) ((List.getD x.fst.snd.snd.snd.fst (Int.toNat (ixD (glW (Option.some (x.fst, ()))).snd.snd.snd.fst x.snd.fst)) (Ty.zero DialT)).fst, (List.getD x.fst.snd.snd.snd.fst
  (Int.toNat (ixD (glW (Option.some (x.fst, ()))).snd.snd.snd.fst x.snd.fst)) (Ty.zero DialT)).snd.fst, (List.getD x.fst.snd.snd.snd.fst (Int.toNat (ixD (glW (Option.some (x.fst, ()))).snd.snd.snd.fst x.snd.fst)) (Ty.zero
  DialT)).snd.snd.fst, (List.getD x.fst.snd.snd.snd.fst (Int.toNat (ixD (glW (Option.some (x.fst, ()))).snd.snd.snd.fst x.snd.fst)) (Ty.zero DialT)).snd.snd.snd.fst, Bool.true, ()))) : Int)) ∧ bcase (Decidable.decide
  ((List.getD (List.set x.fst.snd.snd.snd.fst (Int.toNat (ixD (glW (Option.some (x.fst, ()))).snd.snd.snd.fst x.snd.fst)) ((List.getD x.fst.snd.snd.snd.fst (Int.toNat (ixD (glW (Option.some (x.fst, ()))).snd.snd.snd.fst
  x.snd.fst)) (Ty.zero DialT)).fst, (List.getD x.fst.snd.snd.snd.fst (Int.toNat (ixD (glW (Option.some (x.fst, ()))).snd.snd.snd.fst x.snd.fst)) (Ty.zero DialT)).snd.fst, (List.getD x.fst.snd.snd.snd.fst (Int.toNat (ixD
  (glW (Option.some (x.fst, ()))).snd.snd.snd.fst x.snd.fst)) (Ty.zero DialT)).snd.snd.fst, (List.getD x.fst.snd.snd.snd.fst (Int.toNat (ixD (glW (Option.some (x.fst, ()))).snd.snd.snd.fst x.snd.fst)) (Ty.zero
  DialT)).snd.snd.snd.fst, Bool.true, ())) (Int.toNat (ixD (glW (Option.some (x.fst, ()))).snd.snd.snd.fst x.snd.fst)) (Ty.zero DialT)).snd.snd.fst = (0 : Int))) (Wr ((0 : Int) ≤ ixD (glW (Option.some (x.fst,
  ()))).snd.snd.snd.fst x.snd.fst) ∧ Wr (ixD (glW (Option.some (x.fst, ()))).snd.snd.snd.fst x.snd.fst < (↑(List.length (List.set x.fst.snd.snd.snd.fst (Int.toNat (ixD (glW (Option.some (x.fst, ()))).snd.snd.snd.fst
  x.snd.fst)) ((List.getD x.fst.snd.snd.snd.fst (Int.toNat (ixD (glW (Option.some (x.fst, ()))).snd.snd.snd.fst x.snd.fst)) (Ty.zero DialT)).fst, (List.getD x.fst.snd.snd.snd.fst (Int.toNat (ixD (glW (Option.some (x.fst,
  ()))).snd.snd.snd.fst x.snd.fst)) (Ty.zero DialT)).snd.fst, (List.getD x.fst.snd.snd.snd.fst (Int.toNat (ixD (glW (Option.some (x.fst, ()))).snd.snd.snd.fst x.snd.fst)) (Ty.zero DialT)).snd.snd.fst, (List.getD
  x.fst.snd.snd.snd.fst (Int.toNat (ixD (glW (Option.some (x.fst, ()))).snd.snd.snd.fst x.snd.fst)) (Ty.zero DialT)).snd.snd.snd.fst, Bool.true, ()))) : Int)) ∧ Wr (okSM x.fst.snd.snd.fst x.fst.snd.snd.snd.snd.snd.snd.fst
  = Bool.true) ∧ ((x.fst.fst, x.fst.snd.fst, addS x.fst.snd.snd.fst (List.getD (List.set x.fst.snd.snd.snd.fst (Int.toNat (ixD (glW (Option.some (x.fst, ()))).snd.snd.snd.fst x.snd.fst)) ((List.getD x.fst.snd.snd.snd.fst
  (Int.toNat (ixD (glW (Option.some (x.fst, ()))).snd.snd.snd.fst x.snd.fst)) (Ty.zero DialT)).fst, (List.getD x.fst.snd.snd.snd.fst (Int.toNat (ixD (glW (Option.some (x.fst, ()))).snd.snd.snd.fst x.snd.fst)) (Ty.zero
  DialT)).snd.fst, (List.getD x.fst.snd.snd.snd.fst (Int.toNat (ixD (glW (Option.some (x.fst, ()))).snd.snd.snd.fst x.snd.fst)) (Ty.zero DialT)).snd.snd.fst, (List.getD x.fst.snd.snd.snd.fst (Int.toNat (ixD (glW
  (Option.some (x.fst, ()))).snd.snd.snd.fst x.snd.fst)) (Ty.zero DialT)).snd.snd.snd.fst, Bool.true, ())) (Int.toNat (ixD (glW (Option.some (x.fst, ()))).snd.snd.snd.fst x.snd.fst)) (Ty.zero DialT)).snd.fst x.snd.fst
  x.fst.snd.fst, List.set x.fst.snd.snd.snd.fst (Int.toNat (ixD (glW (Option.some (x.fst, ()))).snd.snd.snd.fst x.snd.fst)) ((List.getD x.fst.snd.snd.snd.fst (Int.toNat (ixD (glW (Option.some (x.fst, ()))).snd.snd.snd.fst
  x.snd.fst)) (Ty.zero DialT)).fst, (List.getD x.fst.snd.snd.snd.fst (Int.toNat (ixD (glW (Option.some (x.fst, ()))).snd.snd.snd.fst x.snd.fst)) (Ty.zero DialT)).snd.fst, (List.getD x.fst.snd.snd.snd.fst (Int.toNat (ixD
  (glW (Option.some (x.fst, ()))).snd.snd.snd.fst x.snd.fst)) (Ty.zero DialT)).snd.snd.fst, (List.getD x.fst.snd.snd.snd.fst (Int.toNat (ixD (glW (Option.some (x.fst, ()))).snd.snd.snd.fst x.snd.fst)) (Ty.zero
  DialT)).snd.snd.snd.fst, Bool.true, ()), x.fst.snd.snd.snd.snd.fst, x.fst.snd.snd.snd.snd.snd.fst, addM x.fst.snd.snd.snd.snd.snd.snd.fst Bool.false (lenS x.fst.snd.snd.fst) x.fst.snd.fst, ()), ((11 : Int), (0 : Int),
  (0 : Int), lenS x.fst.snd.snd.fst, ByteArray.mk (List.toArray (nilL UInt8)), (0 : Int), ()), (0 : Int), ()) = (endW x.fst x.snd.fst, endM x.fst x.snd.fst, endE x.fst x.snd.fst, ())) (((x.fst.fst, x.fst.snd.fst,
  x.fst.snd.snd.fst, List.set x.fst.snd.snd.snd.fst (Int.toNat (ixD (glW (Option.some (x.fst, ()))).snd.snd.snd.fst x.snd.fst)) ((List.getD x.fst.snd.snd.snd.fst (Int.toNat (ixD (glW (Option.some (x.fst,
  ()))).snd.snd.snd.fst x.snd.fst)) (Ty.zero DialT)).fst, (List.getD x.fst.snd.snd.snd.fst (Int.toNat (ixD (glW (Option.some (x.fst, ()))).snd.snd.snd.fst x.snd.fst)) (Ty.zero DialT)).snd.fst, (List.getD
  x.fst.snd.snd.snd.fst (Int.toNat (ixD (glW (Option.some (x.fst, ()))).snd.snd.snd.fst x.snd.fst)) (Ty.zero DialT)).snd.snd.fst, (List.getD x.fst.snd.snd.snd.fst (Int.toNat (ixD (glW (Option.some (x.fst,
  ()))).snd.snd.snd.fst x.snd.fst)) (Ty.zero DialT)).snd.snd.snd.fst, Bool.true, ()), x.fst.snd.snd.snd.snd), ((11 : Int), (0 : Int), (0 : Int), (0 : Int), ByteArray.mk (List.toArray (nilL UInt8)), (160 : Int), ()), (0 :
  Int), ()) = (endW x.fst x.snd.fst, endM x.fst x.snd.fst, endE x.fst x.snd.fst, ())))) := by kernel_rfl
theorem v53_eq : vcFn g53 300 Tryz.f53 cHas = ( ∀ (x : List (Int × (Int × Int × Int × Int × Int × Int × Int × Int × Unit) × Int × Unit) × (Int × (Int × Int × Int × Int × Int × Int × Int × Int × Unit) × Int × Unit) × Unit), Wr (lenA x.fst = Bool.true) → (Wr (IdxI (eqAd
  x.snd.fst) x.fst (0 : Int)) ∧ Wr ((0 : Int) = (0 : Int)) ∧ Wr (x.fst = x.fst) ∧ Wr (x.fst = x.fst) ∧ Wr ((↑(List.length x.fst) : Int) = (↑(List.length x.fst) : Int)) ∧ Wr (x.snd.fst.fst = x.snd.fst.fst) ∧ Wr
  (x.snd.fst.snd.fst.fst = x.snd.fst.snd.fst.fst) ∧ Wr (x.snd.fst.snd.fst.snd.fst = x.snd.fst.snd.fst.snd.fst) ∧ Wr (x.snd.fst.snd.fst.snd.snd.fst = x.snd.fst.snd.fst.snd.snd.fst) ∧ Wr (x.snd.fst.snd.fst.snd.snd.snd.fst =
  x.snd.fst.snd.fst.snd.snd.snd.fst) ∧ Wr (x.snd.fst.snd.fst.snd.snd.snd.snd.fst = x.snd.fst.snd.fst.snd.snd.snd.snd.fst) ∧ Wr (x.snd.fst.snd.fst.snd.snd.snd.snd.snd.fst = x.snd.fst.snd.fst.snd.snd.snd.snd.snd.fst) ∧ Wr
  (x.snd.fst.snd.fst.snd.snd.snd.snd.snd.snd.fst = x.snd.fst.snd.fst.snd.snd.snd.snd.snd.snd.fst) ∧ Wr (x.snd.fst.snd.fst.snd.snd.snd.snd.snd.snd.snd.fst = x.snd.fst.snd.fst.snd.snd.snd.snd.snd.snd.snd.fst) ∧ Wr
  (x.snd.fst.snd.snd.fst = x.snd.fst.snd.snd.fst) ∧ Wr (x.snd.fst.fst = x.snd.fst.fst) ∧ Wr (x.snd.fst.snd.fst.fst = x.snd.fst.snd.fst.fst) ∧ Wr (x.snd.fst.snd.fst.snd.fst = x.snd.fst.snd.fst.snd.fst) ∧ Wr
  (x.snd.fst.snd.fst.snd.snd.fst = x.snd.fst.snd.fst.snd.snd.fst) ∧ Wr (x.snd.fst.snd.fst.snd.snd.snd.fst = x.snd.fst.snd.fst.snd.snd.snd.fst) ∧ Wr (x.snd.fst.snd.fst.snd.snd.snd.snd.fst =
  x.snd.fst.snd.fst.snd.snd.snd.snd.fst) ∧ Wr (x.snd.fst.snd.fst.snd.snd.snd.snd.snd.fst = x.snd.fst.snd.fst.snd.snd.snd.snd.snd.fst) ∧ Wr (x.snd.fst.snd.fst.snd.snd.snd.snd.snd.snd.fst =
  x.snd.fst.snd.fst.snd.snd.snd.snd.snd.snd.fst) ∧ Wr (x.snd.fst.snd.fst.snd.snd.snd.snd.snd.snd.snd.fst = x.snd.fst.snd.fst.snd.snd.snd.snd.snd.snd.snd.fst) ∧ Wr (x.snd.fst.snd.snd.fst = x.snd.fst.snd.snd.fst)) ∧ ∀ (x_1
  : Int), Wr (IdxI (eqAd x.snd.fst) x.fst x_1) → bcase (Decidable.decide (x_1 < (↑(List.length x.fst) : Int))) (Wr ((0 : Int) ≤ x_1) ∧ Wr (x_1 < (↑(List.length x.fst) : Int)) ∧ Wr (Bool.true = Bool.true) ∧ bcase (Ty.eqb
  (Ty.cons (Ty.int IntKind.i8) (Ty.cons (Ty.arr (8 : Nat) (Ty.int IntKind.u16)) (Ty.cons (Ty.int IntKind.i64) Ty.unit))) x.snd.fst (List.getD x.fst (Int.toNat x_1) (Ty.zero AdT))) ((Decidable.decide (x_1 ≥ (0 : Int)), ())
  = (hasA x.fst x.snd.fst, ())) (Wr (IdxI (eqAd x.snd.fst) x.fst (IntKind.wrap IntKind.i64 (x_1 + (1 : Int)))) ∧ Wr (List.length x.fst - Int.toNat (IntKind.wrap IntKind.i64 (x_1 + (1 : Int))) < List.length x.fst -
  Int.toNat x_1) ∧ Wr (IntKind.wrap IntKind.i64 (x_1 + (1 : Int)) = IntKind.wrap IntKind.i64 (x_1 + (1 : Int))) ∧ Wr (x.fst = x.fst) ∧ Wr (x.fst = x.fst) ∧ Wr ((↑(List.length x.fst) : Int) = (↑(List.length x.fst) : Int))
  ∧ Wr (x.snd.fst.fst = x.snd.fst.fst) ∧ Wr (x.snd.fst.snd.fst.fst = x.snd.fst.snd.fst.fst) ∧ Wr (x.snd.fst.snd.fst.snd.fst = x.snd.fst.snd.fst.snd.fst) ∧ Wr (x.snd.fst.snd.fst.snd.snd.fst = x.snd.fst.snd.fst.snd.snd.fst)
  ∧ Wr (x.snd.fst.snd.fst.snd.snd.snd.fst = x.snd.fst.snd.fst.snd.snd.snd.fst) ∧ Wr (x.snd.fst.snd.fst.snd.snd.snd.snd.fst = x.snd.fst.snd.fst.snd.snd.snd.snd.fst) ∧ Wr (x.snd.fst.snd.fst.snd.snd.snd.snd.snd.fst =
  x.snd.fst.snd.fst.snd.snd.snd.snd.snd.fst) ∧ Wr (x.snd.fst.snd.fst.snd.snd.snd.snd.snd.snd.fst = x.snd.fst.snd.fst.snd.snd.snd.snd.snd.snd.fst) ∧ Wr (x.snd.fst.snd.fst.snd.snd.snd.snd.snd.snd.snd.fst =
  x.snd.fst.snd.fst.snd.snd.snd.snd.snd.snd.snd.fst) ∧ Wr (x.snd.fst.snd.snd.fst = x.snd.fst.snd.snd.fst) ∧ Wr (x.snd.fst.fst = x.snd.fst.fst) ∧ Wr (x.snd.fst.snd.fst.fst = x.snd.fst.snd.fst.fst) ∧ Wr
  (x.snd.fst.snd.fst.snd.fst = x.snd.fst.snd.fst.snd.fst) ∧ Wr (x.snd.fst.snd.fst.snd.snd.fst = x.snd.fst.snd.fst.snd.snd.fst) ∧ Wr (x.snd.fst.snd.fst.snd.snd.snd.fst = x.snd.fst.snd.fst.snd.snd.snd.fst) ∧ Wr
  (x.snd.fst.snd.fst.snd.snd.snd.snd.fst = x.snd.fst.snd.fst.snd.snd.snd.snd.fst) ∧ Wr (x.snd.fst.snd.fst.snd.snd.snd.snd.snd.fst = x.snd.fst.snd.fst.snd.snd.snd.snd.snd.fst) ∧ Wr
  (x.snd.fst.snd.fst.snd.snd.snd.snd.snd.snd.fst = x.snd.fst.snd.fst.snd.snd.snd.snd.snd.snd.fst) ∧ Wr (x.snd.fst.snd.fst.snd.snd.snd.snd.snd.snd.snd.fst = x.snd.fst.snd.fst.snd.snd.snd.snd.snd.snd.snd.fst) ∧ Wr
  (x.snd.fst.snd.snd.fst = x.snd.fst.snd.snd.fst))) ((Decidable.decide ((-1 : Int) ≥ (0 : Int)), ()) = (hasA x.fst x.snd.fst, ()))) := by kernel_rfl
theorem v19_eq : vcFn g19 300 Tryz.f19 cUnder = ( ∀ (x : ((List (ByteArray × List (List (Int × (Int × Int × Int × Int × Int × Int × Int × Int × Unit) × Int × Unit)) × Unit) × List ((Int × (Int × Int × Int × Int × Int × Int × Int × Int × Unit) × Int × Unit) × List Int ×
  Unit) × Int × List Int × Unit) × Int × List ((Int × (Int × Int × Int × Int × Int × Int × Int × Int × Unit) × Int × Unit) × Int × Int × Int × Bool × Unit) × List (Int × (Int × (Int × Int × Int × Int × Int × Int × Int ×
  Int × Unit) × Int × Unit) × Int × Bool × Bool × Unit) × List (Int × ByteArray × Int × Bool × Unit) × Int × List (Bool × Int × Int × Unit) × Unit) × List (Int × (Int × Int × Int × Int × Int × Int × Int × Int × Unit) ×
  Int × Unit) × Unit), Wr ((okW x.fst && lenA x.snd.fst) = Bool.true) → (Wr (CntI (underB x.snd.fst) x.fst.snd.snd.snd.fst (0 : Int) (0 : Int)) ∧ Wr ((0 : Int) = (0 : Int)) ∧ Wr ((0 : Int) = (0 : Int)) ∧ Wr
  (x.fst.snd.snd.snd.fst = x.fst.snd.snd.snd.fst) ∧ Wr (x.fst.snd.snd.snd.fst = x.fst.snd.snd.snd.fst) ∧ Wr ((↑(List.length x.fst.snd.snd.snd.fst) : Int) = (↑(List.length x.fst.snd.snd.snd.fst) : Int)) ∧ Wr (x.snd.fst =
  x.snd.fst) ∧ Wr (x.fst.fst.fst = x.fst.fst.fst) ∧ Wr (x.fst.fst.snd.fst = x.fst.fst.snd.fst) ∧ Wr (x.fst.fst.snd.snd.fst = x.fst.fst.snd.snd.fst) ∧ Wr (x.fst.fst.snd.snd.snd.fst = x.fst.fst.snd.snd.snd.fst) ∧ Wr
  (x.fst.snd.fst = x.fst.snd.fst) ∧ Wr (x.fst.snd.snd.fst = x.fst.snd.snd.fst) ∧ Wr (x.fst.snd.snd.snd.fst = x.fst.snd.snd.snd.fst) ∧ Wr (x.fst.snd.snd.snd.snd.fst = x.fst.snd.snd.snd.snd.fst) ∧ Wr
  (x.fst.snd.snd.snd.snd.snd.fst = x.fst.snd.snd.snd.snd.snd.fst) ∧ Wr (x.fst.snd.snd.snd.snd.snd.snd.fst = x.fst.snd.snd.snd.snd.snd.snd.fst)) ∧ ∀ (x_1 : Int × Int), Wr (CntI (underB x.snd.fst) x.fst.snd.snd.snd.fst
  x_1.fst x_1.snd) → bcase (Decidable.decide (x_1.fst < (↑(List.length x.fst.snd.snd.snd.fst) : Int))) (Wr ((0 : Int) ≤ x_1.fst) ∧ Wr (x_1.fst < (↑(List.length x.fst.snd.snd.snd.fst) : Int)) ∧ Wr (Bool.true = Bool.true) ∧
  Wr ((!(List.getD x.fst.snd.snd.snd.fst (Int.toNat x_1.fst) (Ty.zero DialT)).snd.snd.snd.snd.fst && !Decidable.decide ((↑(List.length x.snd.fst) : Int) = (0 : Int))) = Bool.true → lenA x.snd.fst = Bool.true) ∧ bcase
  (!(List.getD x.fst.snd.snd.snd.fst (Int.toNat x_1.fst) (Ty.zero DialT)).snd.snd.snd.snd.fst && (Decidable.decide ((↑(List.length x.snd.fst) : Int) = (0 : Int)) || hasA x.snd.fst (List.getD x.fst.snd.snd.snd.fst
  (Int.toNat x_1.fst) (Ty.zero DialT)).snd.fst)) (Wr (CntI (underB x.snd.fst) x.fst.snd.snd.snd.fst (IntKind.wrap IntKind.i64 (x_1.fst + (1 : Int))) (IntKind.wrap IntKind.i64 (x_1.snd + (1 : Int)))) ∧ Wr (List.length
  x.fst.snd.snd.snd.fst - Int.toNat (IntKind.wrap IntKind.i64 (x_1.fst + (1 : Int))) < List.length x.fst.snd.snd.snd.fst - Int.toNat x_1.fst) ∧ Wr (IntKind.wrap IntKind.i64 (x_1.fst + (1 : Int)) = IntKind.wrap IntKind.i64
  (x_1.fst + (1 : Int))) ∧ Wr (IntKind.wrap IntKind.i64 (x_1.snd + (1 : Int)) = IntKind.wrap IntKind.i64 (x_1.snd + (1 : Int))) ∧ Wr (x.fst.snd.snd.snd.fst = x.fst.snd.snd.snd.fst) ∧ Wr (x.fst.snd.snd.snd.fst =
  x.fst.snd.snd.snd.fst) ∧ Wr ((↑(List.length x.fst.snd.snd.snd.fst) : Int) = (↑(List.length x.fst.snd.snd.snd.fst) : Int)) ∧ Wr (x.snd.fst = x.snd.fst) ∧ Wr (x.fst.fst.fst = x.fst.fst.fst) ∧ Wr (x.fst.fst.snd.fst =
  x.fst.fst.snd.fst) ∧ Wr (x.fst.fst.snd.snd.fst = x.fst.fst.snd.snd.fst) ∧ Wr (x.fst.fst.snd.snd.snd.fst = x.fst.fst.snd.snd.snd.fst) ∧ Wr (x.fst.snd.fst = x.fst.snd.fst) ∧ Wr (x.fst.snd.snd.fst = x.fst.snd.snd.fst) ∧ Wr
  (x.fst.snd.snd.snd.fst = x.fst.snd.snd.snd.fst) ∧ Wr (x.fst.snd.snd.snd.snd.fst = x.fst.snd.snd.snd.snd.fst) ∧ Wr (x.fst.snd.snd.snd.snd.snd.fst = x.fst.snd.snd.snd.snd.snd.fst) ∧ Wr (x.fst.snd.snd.snd.snd.snd.snd.fst =
  x.fst.snd.snd.snd.snd.snd.snd.fst)) (Wr (CntI (underB x.snd.fst) x.fst.snd.snd.snd.fst (IntKind.wrap IntKind.i64 (x_1.fst + (1 : Int))) x_1.snd) ∧ Wr (List.length x.fst.snd.snd.snd.fst - Int.toNat (IntKind.wrap
  IntKind.i64 (x_1.fst + (1 : Int))) < List.length x.fst.snd.snd.snd.fst - Int.toNat x_1.fst) ∧ Wr (IntKind.wrap IntKind.i64 (x_1.fst + (1 : Int)) = IntKind.wrap IntKind.i64 (x_1.fst + (1 : Int))) ∧ Wr (x_1.snd = x_1.snd)
  ∧ Wr (x.fst.snd.snd.snd.fst = x.fst.snd.snd.snd.fst) ∧ Wr (x.fst.snd.snd.snd.fst = x.fst.snd.snd.snd.fst) ∧ Wr ((↑(List.length x.fst.snd.snd.snd.fst) : Int) = (↑(List.length x.fst.snd.snd.snd.fst) : Int)) ∧ Wr
  (x.snd.fst = x.snd.fst) ∧ Wr (x.fst.fst.fst = x.fst.fst.fst) ∧ Wr (x.fst.fst.snd.fst = x.fst.fst.snd.fst) ∧ Wr (x.fst.fst.snd.snd.fst = x.fst.fst.snd.snd.fst) ∧ Wr (x.fst.fst.snd.snd.snd.fst = x.fst.fst.snd.snd.snd.fst)
  ∧ Wr (x.fst.snd.fst = x.fst.snd.fst) ∧ Wr (x.fst.snd.snd.fst = x.fst.snd.snd.fst) ∧ Wr (x.fst.snd.snd.snd.fst = x.fst.snd.snd.snd.fst) ∧ Wr (x.fst.snd.snd.snd.snd.fst = x.fst.snd.snd.snd.snd.fst) ∧ Wr
  (x.fst.snd.snd.snd.snd.snd.fst = x.fst.snd.snd.snd.snd.snd.fst) ∧ Wr (x.fst.snd.snd.snd.snd.snd.snd.fst = x.fst.snd.snd.snd.snd.snd.snd.fst))) ((x_1.snd, ()) = (underW x.fst x.snd.fst, ()))) := by kernel_rfl
end Go.Proofs.YtfhlceooobabcaaGreatDoor.Wd

/-
  A text of mine, of several parts: ZdDef0, Zd0Cfg, Zd0Vc, ZdP0, ZdP0b, ZdLib, ZdFold, Zd0V, ZdDef1, Zd1Cfg, Zd1Vc, ZdP1, ZdP2, Zd1V, ZnDef4, Zn4Cfg, Zn4Vc, ZnNam, ZnShelf4, ZnSrt, ZnP7, Zn4V, EngSized2, ZnDef5, Zn5Cfg, Zn5Vc.
-/
import Derived.Test.YtfhlceooobabcaaGreatDoorZsa
import Derived.Test.YtfhlceooobabcaaGreatDoorZsb
import Derived.Test.YtfhlceooobabcaaGreatDoorZsc
import Derived.WalkSmall
import Derived.Lib.SmallJoins
import Derived.WalkKit
import Derived.BigCall
import Derived.Lib.OthersKept
import Derived.Sort.KeysCollected
import Derived.Shelf.Sort.Plain
import Derived.Shelf.Slices.In.SortNone
import Derived.Test.YtfhlceooobabcaaGreatDoorProg
import Derived.Sort.OwnSorted
import Derived.SizedLaws
set_option linter.all false
set_option maxRecDepth 100000
namespace Go.Proofs.YtfhlceooobabcaaGreatDoor.Wd
open Go Go.Eng Go.Lb Go.Ad
abbrev I64 : Ty := .int .i64
abbrev I32 : Ty := .int .i32
abbrev U8 : Ty := .int .u8
abbrev Big : Nat := 4000000000
/-- a contract whose condition is told by evaluation -/
def conD (a r : Ty) (p : a.El → Bool) (F : a.El → r.El) : Contract := { a := a, r := r, pre := fun x => p x = true, F := F, preB := p, preOk := fun _ h => h }
def szOk (s : ByteArray) : Bool := decide (s.size ≤ 4000000000)
def cSplitS : Contract := conD (.cons .str (.cons .str .unit)) (.cons (.sl .str) .unit) (fun x => szOk x.1 && decide (x.2.1.size = 1)) fun x => (splitS x.1 x.2.1, ())
def cSign : Contract := conD (.cons I32 .unit) (.cons .bool .unit) (fun _ => true) fun x => (signZ x.1, ())
def cLetter : Contract := conD (.cons I32 .unit) (.cons .bool .unit) (fun _ => true) fun x => (letterZ x.1, ())
def cPart : Contract := conD (.cons .str .unit) (.cons .bool .unit) (fun x => szOk x.1) fun x => (partB x.1, ())
def listOk (l : List ByteArray) : Bool := decide (l.length ≤ 100000)
def allValid (l : List ByteArray) : Bool := l.all validB
def cValid : Contract := conD (.cons (.sl .str) .unit) (.cons .bool .unit) (fun x => listOk x.1) fun x => (allValid x.1, ())
def cFold : Contract := conD (.cons .str .unit) (.cons .str (.cons I64 .unit)) (fun _ => true) fun x => (fold1 x.1, (fold2 x.1, ()))
def iterP (s : St) (sl : Nat) : Box Nat := match Go.Eng.look s.env sl with
  | .own o => match lookO s.own o with
    | .iter _ p => ⟨p⟩
    | _ => ⟨0⟩
  | _ => ⟨0⟩
def iterO (s : St) (sl : Nat) (str : ByteArray) (p : Nat) : Go.Eng.Own := match Go.Eng.look s.env sl with
  | .own o => [(o, .iter str p)]
  | _ => []
def signR (s : ByteArray) (p : Nat) : Bool := (its (restL s p)).all signIt
structure PartI (s : ByteArray) (p : Nat) : Prop where
  a : signR s p = signR s 0
  p : p ≤ s.size
def partA : LoopAnn where
  α := Nat
  keep := [0, 6]
  okeep := []
  nxt := 5
  env := fun _ _ => []
  own := fun s x => iterO s 6 (bDat .str s 0).out x
  inv := fun s x => PartI (bDat .str s 0).out x
  mu := fun s x => (bDat .str s 0).out.size - x
  pick := some fun _ s => (iterP s 6).out
structure AllI (p : ByteArray → Bool) (l : List ByteArray) (i : Int) : Prop where
  i0 : 0 ≤ i
  i1 : i ≤ l.length
  a : (l.drop i.toNat).all p = l.all p
def validA : LoopAnn where
  α := Int
  keep := [0, 8, 9]
  okeep := []
  nxt := 20
  env := fun _ x => [(10, .dat I64 x), (3, .dat .bool true)]
  own := fun _ _ => []
  inv := fun s x => AllI validB (bDat (.sl .str) s 8).out x
  mu := fun s x => (bDat (.sl .str) s 8).out.length - x.toNat
  pick := some fun _ s => (bDat I64 s 10).out
def validB8 : LoopAnn where
  α := Int
  keep := [0, 5, 8, 9, 10, 20, 21]
  okeep := []
  nxt := 20
  env := fun _ x => [(22, .dat I64 x), (3, .dat .bool true)]
  own := fun _ _ => []
  inv := fun s x => AllI partB (bDat (.sl .str) s 20).out x
  mu := fun s x => (bDat (.sl .str) s 20).out.length - x.toNat
  pick := some fun _ s => (bDat I64 s 22).out
abbrev I8 : Ty := .int .i8
abbrev U16 : Ty := .int .u16
abbrev AdT : Ty := .cons I8 (.cons (.arr 8 U16) (.cons I64 .unit))
abbrev AdL : Ty := .sl AdT
def lenA (l : List Ad) : Bool := decide (List.length l ≤ 100000)
def cMay : Contract := conD (.cons AdL .unit) (.cons .bool .unit) (fun x => lenA x.1) fun x => (mayA x.1, ())
structure MayI (l : List Ad) (i : Int) : Prop where
  i0 : 0 ≤ i
  i1 : i ≤ l.length
  a : (l.take i.toNat).all may1 = true
def mayL : LoopAnn where
  α := Int
  keep := [0, 6, 7]
  okeep := []
  nxt := 30
  env := fun _ x => [(8, .dat I64 x)]
  own := fun _ _ => []
  inv := fun s x => MayI (bDat AdL s 6).out x
  mu := fun s x => List.length (α := Ad) (bDat AdL s 6).out - x.toNat
  pick := some fun _ s => (bDat I64 s 8).out
end Go.Proofs.YtfhlceooobabcaaGreatDoor.Wd
namespace Go.Proofs.YtfhlceooobabcaaGreatDoor.Wd
open Go Go.Eng Go.Lb Go.Ad
set_option maxRecDepth 100000
noncomputable def g193 : Cfg := { tab := Tb.tab, cons := [], inls := [], loops := [], cuts := [], unroll := false, arrs := [], keys := [] }
noncomputable def g183 : Cfg := { tab := Tb.tab, cons := [(193, cLetter)], inls := [], loops := [], cuts := [], unroll := false, arrs := [], keys := [] }
noncomputable def g168 : Cfg := { tab := Tb.tab, cons := [(183, cSign)], inls := [], loops := [(2, partA)], cuts := [], unroll := false, arrs := [], keys := [] }
noncomputable def g143 : Cfg := { tab := Tb.tab, cons := [(167, cSplitS), (168, cPart)], inls := [], loops := [(3, validA), (8, validB8)], cuts := [], unroll := false, arrs := [], keys := [] }
noncomputable def g45 : Cfg := { tab := Tb.tab, cons := [], inls := [], loops := [(2, mayL)], cuts := [], unroll := false, arrs := [], keys := [] }
end Go.Proofs.YtfhlceooobabcaaGreatDoor.Wd
namespace Go.Proofs.YtfhlceooobabcaaGreatDoor.Wd
open Go Go.Eng Go.Lb Go.Ad
set_option maxRecDepth 100000
theorem v193_eq : vcFn g193 300 Tryz.f193 cLetter = ( ∀ (x : Int × Unit), Wr (Bool.true = Bool.true) → bcase (Decidable.decide ((97 : Int) ≤ x.fst) && Decidable.decide (x.fst ≤ (122 : Int))) (bcase (Decidable.decide ((97 : Int) ≤ x.fst) && Decidable.decide (x.fst ≤ (122 :
  Int))) ((Bool.true, ()) = (Go.Lb.letterZ x.fst, ())) (bcase (Decidable.decide (x.fst = (215 : Int))) (bcase (Decidable.decide (x.fst = (215 : Int))) ((Bool.false, ()) = (Go.Lb.letterZ x.fst, ())) ((Decidable.decide
  ((192 : Int) ≤ x.fst) && Decidable.decide (x.fst ≤ (591 : Int)), ()) = (Go.Lb.letterZ x.fst, ()))) (bcase (Decidable.decide (x.fst = (247 : Int))) ((Bool.false, ()) = (Go.Lb.letterZ x.fst, ())) ((Decidable.decide ((192
  : Int) ≤ x.fst) && Decidable.decide (x.fst ≤ (591 : Int)), ()) = (Go.Lb.letterZ x.fst, ()))))) (bcase (Decidable.decide ((65 : Int) ≤ x.fst) && Decidable.decide (x.fst ≤ (90 : Int))) ((Bool.true, ()) = (Go.Lb.letterZ
  x.fst, ())) (bcase (Decidable.decide (x.fst = (215 : Int))) (bcase (Decidable.decide (x.fst = (215 : Int))) ((Bool.false, ()) = (Go.Lb.letterZ x.fst, ())) ((Decidable.decide ((192 : Int) ≤ x.fst) && Decidable.decide
  (x.fst ≤ (591 : Int)), ()) = (Go.Lb.letterZ x.fst, ()))) (bcase (Decidable.decide (x.fst = (247 : Int))) ((Bool.false, ()) = (Go.Lb.letterZ x.fst, ())) ((Decidable.decide ((192 : Int) ≤ x.fst) && Decidable.decide (x.fst
  ≤ (591 : Int)), ()) = (Go.Lb.letterZ x.fst, ())))))) := by kernel_rfl
theorem v183_eq : vcFn g183 300 Tryz.f183 cSign = ( ∀ (x : Int × Unit), Wr (Bool.true = Bool.true) → Wr ((!(Decidable.decide (x.fst = (45 : Int)) || Decidable.decide ((48 : Int) ≤ x.fst) && Decidable.decide (x.fst ≤ (57 : Int)))) = Bool.true → Bool.true = Bool.true) ∧
  (Decidable.decide (x.fst = (45 : Int)) || Decidable.decide ((48 : Int) ≤ x.fst) && Decidable.decide (x.fst ≤ (57 : Int)) || Go.Lb.letterZ x.fst, ()) = (Go.Lb.signZ x.fst, ())) := by kernel_rfl
theorem v168_eq : vcFn g168 300 Tryz.f168 cPart = ( ∀ (x : ByteArray × Unit), Wr (szOk x.fst = Bool.true) → (Wr (PartI x.fst (0 : Nat)) ∧ Wr (x.fst = x.fst) ∧ Wr (x.fst = x.fst) ∧ Wr ((0 : Nat) = (0 : Nat))) ∧ ∀ (x_1 : Nat), Wr (PartI x.fst x_1) → bcase (Decidable.decide
  (x_1 < ByteArray.size x.fst)) (Wr (Bool.true = Bool.true) ∧ bcase (!Go.Lb.signZ (runeAt x.fst x_1)) ((Bool.false, ()) = (Go.Lb.partB x.fst, ())) (Wr (PartI x.fst (nextP x.fst x_1)) ∧ Wr (ByteArray.size x.fst - nextP
  x.fst x_1 < ByteArray.size x.fst - x_1) ∧ Wr (x.fst = x.fst) ∧ Wr (x.fst = x.fst) ∧ Wr (nextP x.fst x_1 = nextP x.fst x_1))) (Wr ((!Decidable.decide (x.fst = ByteArray.mk (List.toArray (nilL UInt8)))) = Bool.true → (0 :
  Int) ≤ (0 : Int)) ∧ Wr ((!Decidable.decide (x.fst = ByteArray.mk (List.toArray (nilL UInt8)))) = Bool.true → (0 : Int) < (↑(ByteArray.size x.fst) : Int)) ∧ Wr ((!Decidable.decide (x.fst = ByteArray.mk (List.toArray
  (nilL UInt8))) && !Decidable.decide (byteAt x.fst (Int.toNat (0 : Int)) = (45 : Int))) = Bool.true → (0 : Int) ≤ IntKind.wrap IntKind.i64 ((↑(ByteArray.size x.fst) : Int) - (1 : Int))) ∧ Wr ((!Decidable.decide (x.fst =
  ByteArray.mk (List.toArray (nilL UInt8))) && !Decidable.decide (byteAt x.fst (Int.toNat (0 : Int)) = (45 : Int))) = Bool.true → IntKind.wrap IntKind.i64 ((↑(ByteArray.size x.fst) : Int) - (1 : Int)) < (↑(ByteArray.size
  x.fst) : Int)) ∧ (!Decidable.decide (x.fst = ByteArray.mk (List.toArray (nilL UInt8))) && !Decidable.decide (byteAt x.fst (Int.toNat (0 : Int)) = (45 : Int)) && !Decidable.decide (byteAt x.fst (Int.toNat (IntKind.wrap
  IntKind.i64 ((↑(ByteArray.size x.fst) : Int) - (1 : Int)))) = (45 : Int)), ()) = (Go.Lb.partB x.fst, ()))) := by kernel_rfl
theorem v143_eq : vcFn g143 300 Tryz.f143 cValid = ( ∀ (x : List ByteArray × Unit), Wr (listOk x.fst = Bool.true) → (Wr (AllI Go.Lb.validB x.fst (0 : Int)) ∧ Wr ((0 : Int) = (0 : Int)) ∧ Wr (Bool.true = Bool.true) ∧ Wr (x.fst = x.fst) ∧ Wr (x.fst = x.fst) ∧ Wr
  ((↑(List.length x.fst) : Int) = (↑(List.length x.fst) : Int))) ∧ ∀ (x_1 : Int), Wr (AllI Go.Lb.validB x.fst x_1) → bcase (Decidable.decide (x_1 < (↑(List.length x.fst) : Int))) (Wr ((0 : Int) ≤ x_1) ∧ Wr (x_1 <
  (↑(List.length x.fst) : Int)) ∧ Wr (Bool.true = Bool.true) ∧ bcase (!Decidable.decide ((↑(ByteArray.size (List.getD x.fst (Int.toNat x_1) (Ty.zero Ty.str))) : Int) ≤ (64 : Int))) ((Decidable.decide ((↑(ByteArray.size
  (List.getD x.fst (Int.toNat x_1) (Ty.zero Ty.str))) : Int) ≤ (64 : Int)), ()) = (allValid x.fst, ())) (Wr ((szOk (List.getD x.fst (Int.toNat x_1) (Ty.zero Ty.str)) && Decidable.decide (ByteArray.size (ByteArray.mk
  (List.toArray ((46 : UInt8) :: nilL UInt8))) = (1 : Nat))) = Bool.true) ∧ (Wr (AllI Go.Lb.partB (Go.Lb.splitS (List.getD x.fst (Int.toNat x_1) (Ty.zero Ty.str)) (ByteArray.mk (List.toArray ((46 : UInt8) :: nilL
  UInt8)))) (0 : Int)) ∧ Wr ((0 : Int) = (0 : Int)) ∧ Wr (Decidable.decide ((↑(ByteArray.size (List.getD x.fst (Int.toNat x_1) (Ty.zero Ty.str))) : Int) ≤ (64 : Int)) = Bool.true) ∧ Wr (x.fst = x.fst) ∧ Wr (List.getD
  x.fst (Int.toNat x_1) (Ty.zero Ty.str) = List.getD x.fst (Int.toNat x_1) (Ty.zero Ty.str)) ∧ Wr (x.fst = x.fst) ∧ Wr ((↑(List.length x.fst) : Int) = (↑(List.length x.fst) : Int)) ∧ Wr (x_1 = x_1) ∧ Wr (Go.Lb.splitS
  (List.getD x.fst (Int.toNat x_1) (Ty.zero Ty.str)) (ByteArray.mk (List.toArray ((46 : UInt8) :: nilL UInt8))) = Go.Lb.splitS (List.getD x.fst (Int.toNat x_1) (Ty.zero Ty.str)) (ByteArray.mk (List.toArray ((46 : UInt8)
  :: nilL UInt8)))) ∧ Wr ((↑(List.length (Go.Lb.splitS (List.getD x.fst (Int.toNat x_1) (Ty.zero Ty.str)) (ByteArray.mk (List.toArray ((46 : UInt8) :: nilL UInt8))))) : Int) = (↑(List.length (Go.Lb.splitS (List.getD x.fst
  (Int.toNat x_1) (Ty.zero Ty.str)) (ByteArray.mk (List.toArray ((46 : UInt8) :: nilL UInt8))))) : Int))) ∧ ∀ (x_2 : Int), Wr (AllI Go.Lb.partB (Go.Lb.splitS (List.getD x.fst (Int.toNat x_1) (Ty.zero Ty.str))
  (ByteArray.mk (List.toArray ((46 : UInt8) :: nilL UInt8)))) x_2) → bcase (Decidable.decide (x_2 < (↑(List.length (Go.Lb.splitS (List.getD x.fst (Int.toNat x_1) (Ty.zero Ty.str)) (ByteArray.mk (List.toArray ((46 : UInt8)
  :: nilL UInt8))))) : Int))) (Wr ((0 : Int) ≤ x_2) ∧ Wr (x_2 < (↑(List.length (Go.Lb.splitS (List.getD x.fst (Int.toNat x_1) (Ty.zero Ty.str)) (ByteArray.mk (List.toArray ((46 : UInt8) :: nilL UInt8))))) : Int)) ∧ Wr
  (Bool.true = Bool.true) ∧ Wr (szOk (List.getD (Go.Lb.splitS (List.getD x.fst (Int.toNat x_1) (Ty.zero Ty.str)) (ByteArray.mk (List.toArray ((46 : UInt8) :: nilL UInt8)))) (Int.toNat x_2) (Ty.zero Ty.str)) = Bool.true) ∧
  bcase (!Go.Lb.partB (List.getD (Go.Lb.splitS (List.getD x.fst (Int.toNat x_1) (Ty.zero Ty.str)) (ByteArray.mk (List.toArray ((46 : UInt8) :: nilL UInt8)))) (Int.toNat x_2) (Ty.zero Ty.str))) ((Go.Lb.partB (List.getD
  (Go.Lb.splitS (List.getD x.fst (Int.toNat x_1) (Ty.zero Ty.str)) (ByteArray.mk (List.toArray ((46 : UInt8) :: nilL UInt8)))) (Int.toNat x_2) (Ty.zero Ty.str)), ()) = (allValid x.fst, ())) (Wr (AllI Go.Lb.partB
  (Go.Lb.splitS (List.getD x.fst (Int.toNat x_1) (Ty.zero Ty.str)) (ByteArray.mk (List.toArray ((46 : UInt8) :: nilL UInt8)))) (IntKind.wrap IntKind.i64 (x_2 + (1 : Int)))) ∧ Wr (List.length (Go.Lb.splitS (List.getD x.fst
  (Int.toNat x_1) (Ty.zero Ty.str)) (ByteArray.mk (List.toArray ((46 : UInt8) :: nilL UInt8)))) - Int.toNat (IntKind.wrap IntKind.i64 (x_2 + (1 : Int))) < List.length (Go.Lb.splitS (List.getD x.fst (Int.toNat x_1)
  (Ty.zero Ty.str)) (ByteArray.mk (List.toArray ((46 : UInt8) :: nilL UInt8)))) - Int.toNat x_2) ∧ Wr (IntKind.wrap IntKind.i64 (x_2 + (1 : Int)) = IntKind.wrap IntKind.i64 (x_2 + (1 : Int))) ∧ Wr (Go.Lb.partB (List.getD
  (Go.Lb.splitS (List.getD x.fst (Int.toNat x_1) (Ty.zero Ty.str)) (ByteArray.mk (List.toArray ((46 : UInt8) :: nilL UInt8)))) (Int.toNat x_2) (Ty.zero Ty.str)) = Bool.true) ∧ Wr (x.fst = x.fst) ∧ Wr (List.getD x.fst
  (Int.toNat x_1) (Ty.zero Ty.str) = List.getD x.fst (Int.toNat x_1) (Ty.zero Ty.str)) ∧ Wr (x.fst = x.fst) ∧ Wr ((↑(List.length x.fst) : Int) = (↑(List.length x.fst) : Int)) ∧ Wr (x_1 = x_1) ∧ Wr (Go.Lb.splitS (List.getD
  x.fst (Int.toNat x_1) (Ty.zero Ty.str)) (ByteArray.mk (List.toArray ((46 : UInt8) :: nilL UInt8))) = Go.Lb.splitS (List.getD x.fst (Int.toNat x_1) (Ty.zero Ty.str)) (ByteArray.mk (List.toArray ((46 : UInt8) :: nilL
  UInt8)))) ∧ Wr ((↑(List.length (Go.Lb.splitS (List.getD x.fst (Int.toNat x_1) (Ty.zero Ty.str)) (ByteArray.mk (List.toArray ((46 : UInt8) :: nilL UInt8))))) : Int) = (↑(List.length (Go.Lb.splitS (List.getD x.fst
  (Int.toNat x_1) (Ty.zero Ty.str)) (ByteArray.mk (List.toArray ((46 : UInt8) :: nilL UInt8))))) : Int)))) (Wr (AllI Go.Lb.validB x.fst (IntKind.wrap IntKind.i64 (x_1 + (1 : Int)))) ∧ Wr (List.length x.fst - Int.toNat
  (IntKind.wrap IntKind.i64 (x_1 + (1 : Int))) < List.length x.fst - Int.toNat x_1) ∧ Wr (IntKind.wrap IntKind.i64 (x_1 + (1 : Int)) = IntKind.wrap IntKind.i64 (x_1 + (1 : Int))) ∧ Wr (Bool.true = Bool.true) ∧ Wr (x.fst =
  x.fst) ∧ Wr (x.fst = x.fst) ∧ Wr ((↑(List.length x.fst) : Int) = (↑(List.length x.fst) : Int))))) ((Bool.true, ()) = (allValid x.fst, ()))) := by kernel_rfl
theorem v45_eq : vcFn g45 300 Tryz.f45 cMay = ( ∀ (x : List (Int × (Int × Int × Int × Int × Int × Int × Int × Int × Unit) × Int × Unit) × Unit), Wr (lenA x.fst = Bool.true) → (Wr (MayI x.fst (0 : Int)) ∧ Wr ((0 : Int) = (0 : Int)) ∧ Wr (x.fst = x.fst) ∧ Wr (x.fst =
  x.fst) ∧ Wr ((↑(List.length x.fst) : Int) = (↑(List.length x.fst) : Int))) ∧ ∀ (x_1 : Int), Wr (MayI x.fst x_1) → bcase (Decidable.decide (x_1 < (↑(List.length x.fst) : Int))) (Wr ((0 : Int) ≤ x_1) ∧ Wr (x_1 <
  (↑(List.length x.fst) : Int)) ∧ Wr (Bool.true = Bool.true) ∧ bcase (Decidable.decide ((List.getD x.fst (Int.toNat x_1) (Ty.zero AdT)).snd.snd.fst < (1 : Int)) || Decidable.decide ((List.getD x.fst (Int.toNat x_1)
  (Ty.zero AdT)).snd.snd.fst > (65535 : Int)) || !Decidable.decide ((List.getD x.fst (Int.toNat x_1) (Ty.zero AdT)).fst = (6 : Int)) && (!Decidable.decide ((List.getD x.fst (Int.toNat x_1) (Ty.zero AdT)).fst = (4 : Int))
  || !Ty.eqb (Ty.cons (Ty.int IntKind.i8) (Ty.cons (Ty.arr (8 : Nat) (Ty.int IntKind.u16)) (Ty.cons (Ty.int IntKind.i64) Ty.unit))) (List.getD x.fst (Int.toNat x_1) (Ty.zero AdT)) ((List.getD x.fst (Int.toNat x_1)
  (Ty.zero AdT)).fst, ((List.getD x.fst (Int.toNat x_1) (Ty.zero AdT)).snd.fst.fst, (List.getD x.fst (Int.toNat x_1) (Ty.zero AdT)).snd.fst.snd.fst, (0 : Int), (0 : Int), (0 : Int), (0 : Int), (0 : Int), (0 : Int), ()),
  (List.getD x.fst (Int.toNat x_1) (Ty.zero AdT)).snd.snd))) ((Bool.false, ()) = (Go.Ad.mayA x.fst, ())) (Wr (MayI x.fst (IntKind.wrap IntKind.i64 (x_1 + (1 : Int)))) ∧ Wr (List.length x.fst - Int.toNat (IntKind.wrap
  IntKind.i64 (x_1 + (1 : Int))) < List.length x.fst - Int.toNat x_1) ∧ Wr (IntKind.wrap IntKind.i64 (x_1 + (1 : Int)) = IntKind.wrap IntKind.i64 (x_1 + (1 : Int))) ∧ Wr (x.fst = x.fst) ∧ Wr (x.fst = x.fst) ∧ Wr
  ((↑(List.length x.fst) : Int) = (↑(List.length x.fst) : Int)))) ((Bool.true, ()) = (Go.Ad.mayA x.fst, ()))) := by kernel_rfl
end Go.Proofs.YtfhlceooobabcaaGreatDoor.Wd
set_option linter.all false
namespace Go.Proofs.YtfhlceooobabcaaGreatDoor.Wd
open Go Go.Eng Go.Lb Go.Ad
set_option maxRecDepth 100000
set_option maxHeartbeats 2000000
theorem szOk_iff (s : ByteArray) : szOk s = true ↔ s.size ≤ 4000000000 := by simp [szOk]
theorem signR_next {s : ByteArray} {p : Nat} (h : p < s.size) : signR s p = (signIt (hd1 (restL s p)) && signR s (nextP s p)) := by
  unfold signR
  rw [its_rest h, List.all_cons]
theorem signR_end {s : ByteArray} {p : Nat} (h : s.size ≤ p) : signR s p = true := by unfold signR; rw [restL_end h]; rfl
theorem w64 {n : Int} (h0 : 0 ≤ n) (h1 : n ≤ 9000000000000000000) : IntKind.wrap .i64 n = n := by
  simp [IntKind.wrap, IntKind.signed, IntKind.bits]; omega
theorem its_len (l : List UInt8) : (its l).length ≤ l.length := by
  induction l using its_ind with
  | h0 => simp [its_nil]
  | h1 l hl ih =>
    rw [its_cons hl, List.length_cons]
    have := wid_pos l
    have := List.length_pos_iff.2 hl
    rw [List.length_drop] at ih
    omega
theorem v193 : Vc g193 300 Tryz.f193 cLetter := by
  constructor
  rw [v193_eq]
  simp only [Wr_iff, bcase_iff, true_and, and_true, decide_eq_true_eq, decide_eq_false_iff_not, Bool.and_eq_true, Bool.and_eq_false_iff, Bool.or_eq_true, Bool.or_eq_false_iff, Bool.not_eq_true', Bool.not_eq_false', Option.map_some, Option.getD_some, Option.isSome_some, Option.isSome_map, imp_self, nilL, noneO]
  intro x
  generalize x.fst = n
  intro _
  simp only [Prod.mk.injEq, and_true, letterZ, isLetter]
  have key : ∀ b : Bool, (b = true ↔ ((97 ≤ n ∧ n ≤ 122) ∨ (65 ≤ n ∧ n ≤ 90) ∨ (192 ≤ n ∧ n ≤ 591 ∧ n ≠ 215 ∧ n ≠ 247))) → b = (decide (0 ≤ n) && (decide (97 ≤ n.toNat) && decide (n.toNat ≤ 122) || decide (65 ≤ n.toNat) && decide (n.toNat ≤ 90) ||
      decide (192 ≤ n.toNat) && decide (n.toNat ≤ 591) && decide (n.toNat ≠ 215) && decide (n.toNat ≠ 247))) := by
    intro b hb
    rw [Bool.eq_iff_iff, hb]
    simp only [Bool.and_eq_true, Bool.or_eq_true, decide_eq_true_eq]
    omega
  repeat' (first | with_reducible apply And.intro | intro _)
  all_goals (apply key; simp only [Bool.and_eq_true, Bool.or_eq_true, decide_eq_true_eq, Bool.true_eq, iff_true, true_iff, Bool.false_eq_true, false_iff, eq_self_iff_true]; omega)
theorem sign_lem (n : Int) : (decide (n = 45) || decide (48 ≤ n) && decide (n ≤ 57) || letterZ n) = signZ n := by
  unfold signZ letterZ isSign
  rw [Bool.eq_iff_iff]
  cases hl : isLetter n.toNat <;> simp only [Bool.and_eq_true, Bool.or_eq_true, decide_eq_true_eq, Bool.or_false, Bool.or_true, Bool.and_true, Bool.and_false, or_false, Bool.false_eq_true, and_true]
  · omega
  · unfold isLetter at hl
    simp only [Bool.and_eq_true, Bool.or_eq_true, decide_eq_true_eq] at hl
    omega
theorem v183 : Vc g183 300 Tryz.f183 cSign := by
  constructor
  rw [v183_eq]
  simp only [Wr_iff, bcase_iff, true_and, and_true, decide_eq_true_eq, decide_eq_false_iff_not, Bool.and_eq_true, Bool.and_eq_false_iff, Bool.or_eq_true, Bool.or_eq_false_iff, Bool.not_eq_true', Bool.not_eq_false', Option.map_some, Option.getD_some, Option.isSome_some, Option.isSome_map, imp_self, nilL, noneO]
  intro x
  generalize x.fst = n
  intro _
  exact ⟨fun _ => trivial, by rw [sign_lem]⟩
theorem signZ_it {s : ByteArray} {p : Nat} (h : p < s.size) : signZ (runeAt s p) = signIt (hd1 (restL s p)) := by
  rw [runeAt_eq h]
  unfold signZ signIt
  cases (hd1 (restL s p)).1 with
  | none => rfl
  | some c => simp
theorem byteAt_end {s : ByteArray} (h : 0 < s.size) : byteAt s (s.size - 1) = ((((bytesL s).getLast?.getD 0).toNat : Nat) : Int) ∧ byteAt s 0 = ((((bytesL s).head?.getD 0).toNat : Nat) : Int) := by
  rw [size_bytesL] at h
  rw [byteAt_eq, byteAt_eq, size_bytesL]
  cases hb : bytesL s with
  | nil => rw [hb] at h; simp at h
  | cons b r => 
    constructor
    · rw [List.getLast?_eq_getElem?, List.getD_eq_getElem?_getD]
    · rfl
theorem nil_iff {s : ByteArray} : (s = { data := #[] }) ↔ s.size = 0 := by
  constructor
  · intro h; rw [h]; rfl
  · intro h
    rw [size_bytesL] at h
    exact bytesL_inj (by rw [List.length_eq_zero_iff.1 h]; rfl)
theorem notEnd_iff {o : Option UInt8} (h : o.isSome = true) : notEnd o = !decide ((((o.getD 0).toNat : Nat) : Int) = 45) := by
  cases o with
  | none => cases h
  | some b =>
    simp only [notEnd, Option.getD_some]
    rw [Bool.eq_iff_iff]
    simp only [decide_eq_true_eq, Bool.not_eq_true', decide_eq_false_iff_not]
    constructor
    · intro h e; exact h (by apply UInt8.toNat_inj.1; show b.toNat = 45; omega)
    · intro h e; exact h (by rw [e]; rfl)
theorem v168 : Vc g168 300 Tryz.f168 cPart := by
  constructor
  rw [v168_eq]
  simp only [Wr_iff, bcase_iff, true_and, and_true, decide_eq_true_eq, decide_eq_false_iff_not, Bool.and_eq_true, Bool.and_eq_false_iff, Bool.or_eq_true, Bool.or_eq_false_iff, Bool.not_eq_true', Bool.not_eq_false', Option.map_some, Option.getD_some, Option.isSome_some, Option.isSome_map, imp_self, nilL, noneO]
  intro x
  generalize x.fst = s
  intro hs
  rw [szOk_iff] at hs
  refine ⟨⟨rfl, by omega⟩, fun p hy => ⟨fun hp => ?_, fun hp => ?_⟩⟩
  · have hn := nextP_le hp
    have hr := signR_next hp
    rw [signZ_it hp]
    refine ⟨fun h => ?_, fun h => ⟨⟨?_, by omega⟩, by omega⟩⟩
    · rw [h] at hr
      have := hy.a
      rw [hr] at this
      simp only [Prod.mk.injEq, and_true, partB, partL]
      rw [show (its (bytesL s)).all signIt = signR s 0 from rfl, ← this]
      rfl
    · rw [h] at hr
      rw [← hy.a, hr, Bool.true_and]
  · have hr := signR_end (s := s) (p := p) (by omega)
    have ha : (its (bytesL s)).all signIt = true := by
      rw [show (its (bytesL s)).all signIt = signR s 0 from rfl, ← hy.a, hr]
    simp only [nil_iff]
    have t0 : Int.toNat 0 = 0 := rfl
    rw [t0]
    by_cases hz : s.size = 0
    · refine ⟨fun h => absurd hz h, fun h => absurd hz h, fun h => absurd hz h.1, fun h => absurd hz h.1, ?_⟩
      have hb : bytesL s = [] := by rw [size_bytesL] at hz; exact List.length_eq_zero_iff.1 hz
      simp [hz, partB, partL, hb, notEnd]
    · have hb := byteAt_end (s := s) (by omega)
      rw [w64 (by omega) (by omega)]
      have e : ((s.size : Int) - 1).toNat = s.size - 1 := by omega
      rw [e, hb.1, hb.2]
      refine ⟨fun _ => by omega, fun _ => by omega, fun _ => by omega, fun _ => by omega, ?_⟩
      simp only [Prod.mk.injEq, and_true, partB, partL]
      have hne : bytesL s ≠ [] := by intro e; rw [size_bytesL, e] at hz; exact hz rfl
      rw [ha, notEnd_iff (by rw [List.isSome_head?]; simpa using hne), notEnd_iff (by rw [List.getLast?_isSome]; exact hne)]
      simp [hz]
theorem splitC_le {d : UInt8} (l : List UInt8) : (∀ p ∈ splitC d l, p.length ≤ l.length) ∧ (splitC d l).length ≤ l.length + 1 := by
  induction l with
  | nil => simp [splitC]
  | cons b r ih =>
    by_cases hb : b = d
    · subst hb
      rw [splitC_dot]
      refine ⟨fun p hp => ?_, by simp only [List.length_cons]; omega⟩
      rcases List.mem_cons.1 hp with rfl | hp
      · simp
      · have := ih.1 p hp; simp only [List.length_cons]; omega
    · cases hs : splitC d r with
      | nil => exact absurd hs (splitC_ne r)
      | cons p ps =>
        rw [splitC_cons hb hs]
        rw [hs] at ih
        refine ⟨fun q hq => ?_, by have := ih.2; simp only [List.length_cons] at *; omega⟩
        rcases List.mem_cons.1 hq with rfl | hq
        · have := ih.1 p List.mem_cons_self; simp only [List.length_cons]; omega
        · have := ih.1 q (List.mem_cons_of_mem _ hq); simp only [List.length_cons]; omega
theorem ofL_size (l : List UInt8) : (ofL l).size = l.length := by rw [size_bytesL, bytesL_ofL]
theorem splitS_le (s d : ByteArray) : (∀ p ∈ splitS s d, p.size ≤ s.size) ∧ (splitS s d).length ≤ s.size + 1 := by
  unfold splitS
  have h := splitC_le (d := (bytesL d).getD 0 0) (bytesL s)
  rw [size_bytesL]
  refine ⟨fun p hp => ?_, by rw [List.length_map]; exact h.2⟩
  obtain ⟨q, hq, rfl⟩ := List.mem_map.1 hp
  rw [ofL_size]
  exact h.1 q hq
theorem partB_ofL (l : List UInt8) : partB (ofL l) = partL l := by unfold partB; rw [bytesL_ofL]
theorem split_all (s : ByteArray) : (splitS s { data := #[46] }).all partB = (splitL (bytesL s)).all partL := by
  show ((splitC 46 (bytesL s)).map ofL).all partB = _
  rw [List.all_map]
  congr 1
theorem validB_small {s : ByteArray} (h : s.size ≤ 64) : validB s = (splitS s { data := #[46] }).all partB := by
  rw [split_all]
  unfold validB validL
  rw [← size_bytesL]
  simp [h]
theorem validB_great {s : ByteArray} (h : ¬ s.size ≤ 64) : validB s = false := by
  unfold validB validL
  rw [← size_bytesL]
  simp [h]

/-! all of a list -/
theorem getD_mem {l : List ByteArray} {i : Int} {z : ByteArray} (h0 : 0 ≤ i) (h : i < l.length) : l.getD i.toNat z ∈ l := by
  have h' : i.toNat < l.length := by omega
  rw [List.getD_eq_getElem?_getD, List.getElem?_eq_getElem h']
  exact List.getElem_mem h'
theorem AllI.zero (p : ByteArray → Bool) (l : List ByteArray) : AllI p l 0 := ⟨by omega, by omega, rfl⟩
theorem AllI.no {p : ByteArray → Bool} {l : List ByteArray} {i : Int} {z : ByteArray} (h : AllI p l i) (hi : i < l.length) (hp : p (l.getD i.toNat z) = false) : l.all p = false := by
  rw [← h.a, drop_cons l i z h.i0 hi, List.all_cons, hp]
  rfl
theorem AllI.on {p : ByteArray → Bool} {l : List ByteArray} {i : Int} {z : ByteArray} (h : AllI p l i) (hl : l.length ≤ 5000000000) (hi : i < l.length) (hp : p (l.getD i.toNat z) = true) : AllI p l (IntKind.wrap .i64 (i + 1)) ∧ l.length - (IntKind.wrap .i64 (i + 1)).toNat < l.length - i.toNat := by
  have h0 := h.i0
  rw [w64 (by omega) (by omega)]
  refine ⟨⟨by omega, by omega, ?_⟩, by omega⟩
  rw [← h.a, drop_cons l i z h.i0 hi, List.all_cons, hp]
  rfl
theorem AllI.fin {p : ByteArray → Bool} {l : List ByteArray} {i : Int} (h : AllI p l i) (hi : ¬ i < l.length) : l.all p = true := by
  rw [← h.a, List.drop_eq_nil_iff.2 (by have := h.i1; omega)]
  rfl
theorem listOk_iff (l : List ByteArray) : listOk l = true ↔ l.length ≤ 100000 := by simp [listOk]
theorem v143 : Vc g143 300 Tryz.f143 cValid := by
  constructor
  rw [v143_eq]
  simp only [Wr_iff, bcase_iff, true_and, and_true, decide_eq_true_eq, decide_eq_false_iff_not, Bool.and_eq_true, Bool.and_eq_false_iff, Bool.or_eq_true, Bool.or_eq_false_iff, Bool.not_eq_true', Bool.not_eq_false', Option.map_some, Option.getD_some, Option.isSome_some, Option.isSome_map, imp_self, nilL, noneO]
  intro x
  generalize x.fst = l
  intro hl
  rw [listOk_iff] at hl
  refine ⟨AllI.zero _ _, fun i hi => ⟨fun h => ?_, fun h => ?_⟩⟩
  · have hm := getD_mem (z := Ty.str.zero) hi.i0 h
    generalize hs : l.getD i.toNat Ty.str.zero = s
    refine ⟨hi.i0, h, fun h64 => ?_, fun h64 => ⟨⟨(szOk_iff s).2 (by omega), rfl⟩, ⟨AllI.zero _ _, h64⟩, fun j hj => ⟨fun h2 => ?_, fun h2 => ?_⟩⟩⟩
    · have := hi.no (z := Ty.str.zero) h (by rw [hs]; exact validB_great (by omega))
      rw [allValid, this]
      simp only [Prod.mk.injEq, and_true, decide_eq_false_iff_not]
      exact h64
    · have hle := splitS_le s { data := #[46] }
      have hm2 := getD_mem (z := Ty.str.zero) hj.i0 h2
      have h42 := hle.1 _ hm2
      refine ⟨hj.i0, h2, (szOk_iff _).2 (by omega), fun hp => ?_, fun hp => ?_⟩
      · have h3 := hj.no (z := Ty.str.zero) h2 hp
        rw [← validB_small (by omega)] at h3
        rw [hp, allValid, hi.no (z := Ty.str.zero) h (by rw [hs]; exact h3)]
      · have := hj.on (z := Ty.str.zero) (by omega) h2 hp
        exact ⟨this.1, this.2, hp⟩
    · have h3 := hj.fin h2
      rw [← validB_small (by omega)] at h3
      exact hi.on (z := Ty.str.zero) (by omega) h (by rw [hs]; exact h3)
  · rw [allValid, hi.fin h]
theorem fold2_iff (s : ByteArray) : fold2 s = 0 ↔ validB s = true := by
  unfold fold2
  cases validB s <;> simp
theorem fold2_no {s : ByteArray} (h : ¬ fold2 s = 0) : validB s = false ∧ fold2 s = 10 := by
  unfold fold2 at *
  cases hv : validB s <;> simp_all
theorem enc_len (n : Int) : (Go.Lib.encodeRune n).length ≤ 4 := by
  have h1 := Go.Lib.runeCells_le n
  rw [Go.Lib.runeCells_length] at h1
  exact h1.2
theorem foldL_len (l : List UInt8) : (foldL l).length ≤ 4 * l.length := by
  have h : ∀ I : List It, (I.flatMap foldIt).length ≤ 4 * I.length := by
    intro I
    induction I with
    | nil => simp
    | cons p I ih =>
      rw [List.flatMap_cons, List.length_append, List.length_cons]
      have := enc_len ((foldC (p.1.getD 65533) : Nat) : Int)
      unfold foldIt at *
      omega
  have := h (its l)
  have := its_len l
  unfold foldL
  omega
theorem valid_size {s : ByteArray} (h : validB s = true) : s.size ≤ 64 := by
  rcases Nat.lt_or_ge 64 s.size with h' | h'
  · rw [validB_great (by omega)] at h; cases h
  · exact h'
theorem fold1_size (s : ByteArray) : (fold1 s).size ≤ 256 := by
  unfold fold1
  cases h : validB s with
  | false => simp [ofL_size]
  | true =>
    simp only [cond_true, ofL_size]
    have := foldL_len (bytesL s)
    have := valid_size h
    rw [size_bytesL] at this
    omega
theorem foldL_rest {s : ByteArray} {p : Nat} (h : p < s.size) : foldL (restL s p) = foldIt (hd1 (restL s p)) ++ foldL (restL s (nextP s p)) := by
  unfold foldL
  rw [its_rest h, List.flatMap_cons]
end Go.Proofs.YtfhlceooobabcaaGreatDoor.Wd
set_option linter.all false
namespace Go.Proofs.YtfhlceooobabcaaGreatDoor.Wd
open Go Go.Eng Go.Lb Go.Ad
set_option maxRecDepth 100000
set_option maxHeartbeats 2000000
theorem may1_iff (a : Ad) : may1 a = true ↔ (1 ≤ a.2.2.1 ∧ a.2.2.1 ≤ 65535) ∧ (a.1 = 6 ∨ a.1 = 4 ∧ ∀ x ∈ (gl a.2.1).drop 2, x = 0) := by
  unfold may1
  simp [isZ, List.all_eq_true]
theorem getD_memA {α : Type} {l : List α} {i : Int} {z : α} (h0 : 0 ≤ i) (h : i < l.length) : l.getD i.toNat z ∈ l := by
  have h' : i.toNat < l.length := by omega
  rw [List.getD_eq_getElem?_getD, List.getElem?_eq_getElem h']
  exact List.getElem_mem h'
theorem take_all {α : Type} {l : List α} {i : Int} (h1 : i ≤ l.length) (h : ¬ i < l.length) : l.take i.toNat = l := List.take_of_length_le (by omega)
theorem step {i : Int} {n : Nat} (h0 : 0 ≤ i) (hn : n ≤ 5000000000) (h : i < n) : IntKind.wrap .i64 (i + 1) = i + 1 := w64 (by omega) (by omega)
theorem bL0 (l : List UInt8) : ({ data := { toList := l } } : ByteArray) = ofL l := rfl
theorem wcut {n : Nat} {i : Int} (h0 : 0 ≤ i) (h : i < n) : n - (i + 1).toNat < n - i.toNat := by omega
theorem eqA (a b : Ad) : Ty.eqb AdT a b = true ↔ a = b := by
  constructor
  · exact eqb_eq AdT rfl a b
  · rintro rfl
    simp [Ty.eqb, Ty.arr]
theorem eqA_f (a b : Ad) : Ty.eqb AdT a b = false ↔ ¬ a = b := by
  rw [← eqA, Bool.not_eq_true]
theorem lenA_iff (l : List Ad) : lenA l = true ↔ l.length ≤ 100000 := by simp [lenA]
def bare (a : Ad) : Ad := (a.1, (a.2.1.1, a.2.1.2.1, 0, 0, 0, 0, 0, 0, ()), a.2.2)
theorem bare_iff (a : Ad) : a = bare a ↔ ∀ x ∈ (gl a.2.1).drop 2, x = 0 := by
  obtain ⟨f, ⟨a0, a1, a2, a3, a4, a5, a6, a7, ⟨⟩⟩, p, ⟨⟩⟩ := a
  simp [bare, gl]
theorem may_no (a : Ad) (h : (a.2.2.1 < 1 ∨ a.2.2.1 > 65535) ∨ ¬ a.1 = 6 ∧ (¬ a.1 = 4 ∨ Ty.eqb AdT a (bare a) = false)) : may1 a = false := by
  rw [eqA_f, bare_iff] at h
  cases hm : may1 a with
  | false => rfl
  | true =>
    rw [may1_iff] at hm
    exfalso
    rcases hm with ⟨⟨h1, h2⟩, h3 | ⟨h3, h4⟩⟩
    · omega
    · rcases h with h | ⟨h5, h6 | h6⟩
      · omega
      · exact h6 h3
      · exact h6 h4
theorem may_yes (a : Ad) (h : (¬ a.2.2.1 < 1 ∧ ¬ a.2.2.1 > 65535) ∧ (a.1 = 6 ∨ a.1 = 4 ∧ Ty.eqb AdT a (bare a) = true)) : may1 a = true := by
  rw [eqA, bare_iff] at h
  rw [may1_iff]
  exact ⟨⟨by omega, by omega⟩, h.2⟩
theorem v45 : Vc g45 300 Tryz.f45 cMay := by
  constructor
  rw [v45_eq]
  simp only [Wr_iff, bcase_iff, true_and, and_true, decide_eq_true_eq, decide_eq_false_iff_not, Bool.and_eq_true, Bool.and_eq_false_iff, Bool.or_eq_true, Bool.or_eq_false_iff, Bool.not_eq_true', Bool.not_eq_false', Option.map_some, Option.getD_some, Option.isSome_some, Option.isSome_map, imp_self, nilL, noneO]
  intro x
  generalize x.fst = l
  intro hl
  have hl := (lenA_iff l).1 hl
  refine ⟨⟨by omega, by omega, rfl⟩, fun i hi => ⟨fun h => ?_, fun h => ?_⟩⟩
  · refine ⟨hi.i0, h, fun hn => ?_, fun hy => ?_⟩
    · have hn := may_no _ hn
      have : mayA l = false := by
        cases hm : mayA l with
        | false => rfl
        | true =>
          have := List.all_eq_true.1 hm _ (getD_memA (z := Ty.zero AdT) hi.i0 h)
          exact absurd (this.symm.trans hn) (by decide)
      rw [this]
    · have hy := may_yes _ hy
      have h0 := hi.i0
      rw [step h0 (by omega) h]
      refine ⟨⟨by omega, by omega, ?_⟩, wcut h0 h⟩
      have e := take_succ l i (Ty.zero AdT) h0 h
      rw [e, List.all_append, hi.a, List.all_cons, List.all_nil, Bool.and_true, Bool.true_and]
      exact hy
  · have := hi.a
    rw [take_all hi.i1 h] at this
    exact congrArg (fun b => (b, ())) this.symm
end Go.Proofs.YtfhlceooobabcaaGreatDoor.Wd
set_option linter.all false
namespace Go.Proofs.YtfhlceooobabcaaGreatDoor.Wd
open Go Go.Eng Go.Lb Go.Ad Go.RowKit
set_option maxRecDepth 100000
set_option maxHeartbeats 2000000

/-- what the variables hold that the library reads -/
structure GW (w : World) : Prop where
  max : ∃ m, w.cell? ⟨0, 0, none⟩ = some (.int .i64 m)
theorem gws : ∀ w w', Below w.heap.size w w' → GW w → GW w' := by
  intro w w' hb h
  obtain ⟨⟨m, h1⟩⟩ := h
  have h0 : 0 < w.heap.size := World.block_lt_of_cell? w ⟨0, 0, none⟩ h1
  refine ⟨⟨m, ?_⟩⟩
  rw [World.cell?_of_block (w := w) (w' := w') (hb.block 0 h0)]
  exact h1


theorem indexByte_none {d : UInt8} : ∀ {l : List UInt8}, d ∉ l → Go.Lib.indexByte l d = -1
  | [], _ => rfl
  | b :: l, h => by
    simp only [List.mem_cons, not_or] at h
    rw [Go.Lib.indexByte, indexByte_none h.2, if_neg (by simpa using Ne.symm h.1)]
    rfl
theorem indexByte_app {d : UInt8} {r : List UInt8} : ∀ {a : List UInt8}, d ∉ a → Go.Lib.indexByte (a ++ d :: r) d = a.length
  | [], _ => by simp [Go.Lib.indexByte]
  | b :: a, h => by
    simp only [List.mem_cons, not_or] at h
    rw [List.cons_append, Go.Lib.indexByte, indexByte_app h.2, if_neg (by simpa using Ne.symm h.1), if_neg (by simp <;> omega)]
    simp
theorem split_eq (d : ByteArray) (hd : d.size = 1) : ∀ (l : List UInt8) (s : ByteArray), bytesL s = l → Go.Lib.splitB d 0 (Go.Lib.countB s d) s = splitS s d := by
  have hidx : ∀ s : ByteArray, Go.Lib.indexB s d = Go.Lib.indexByte (bytesL s) ((bytesL d).getD 0 0) := by
    intro s
    rw [Go.Lib.one s d hd]
    show Go.Lib.indexByte (bytesL s) _ = _
    congr 1
    have : (bytesL d).getD 0 0 = d[0] := by
      unfold bytesL
      rw [List.getD_eq_getElem?_getD, Array.getElem?_toList, Array.getElem?_eq_getElem (show 0 < d.data.size from by show 0 < d.size; omega)]
      rfl
    rw [this]
    simp
  intro l
  generalize hc : (bytesL d).getD 0 0 = c at hidx
  induction l using splitC_ind (d := c) with
  | h0 l h =>
    intro s hs
    have hi : Go.Lib.indexB s d = -1 := by rw [hidx, hs]; exact indexByte_none h
    rw [Go.Lib.countB_miss s d hi, Go.Lib.splitB_zero]
    unfold splitS
    rw [hc, hs, splitC_none h, ← hs]
    simp [ofL_bytesL]
  | h1 a r h ih =>
    intro s hs
    have hi : Go.Lib.indexB s d = (a.length : Nat) := by rw [hidx, hs]; exact indexByte_app h
    have hsz := size_bytesL s
    rw [hs] at hsz
    have hr : bytesL (s.extract (a.length + d.size) s.size) = r := by
      have := bytesL_sub s (a.length + d.size) s.size
      unfold subS at this
      rw [this, hs, hd, hsz, List.take_length, List.drop_append]
      simp
    rw [Go.Lib.countB_hit s d a.length (by omega) hi, Nat.add_comm 1, Go.Lib.splitB_hit d 0 _ s a.length hi, ih _ hr]
    unfold splitS
    rw [hc, hs, splitC_app r h, hr, List.map_cons]
    congr 1
    apply bytesL_inj
    have := bytesL_sub s 0 (a.length + 0)
    unfold subS at this
    rw [this, hs, bytesL_ofL]
    simp
theorem valSplitS : Valid Tryz.prog GW 167 cSplitS := by
  refine ⟨⟨Tryz.f167, Tryz.func167, by kernel_rfl, rfl⟩, fun w hG S x cs hS hx hpre => ?_⟩
  obtain ⟨s, d, ⟨⟩⟩ := x
  obtain ⟨c1, c2, rfl, ⟨rfl, hs1⟩, h2⟩ := hx
  obtain ⟨c3, c4, rfl, ⟨rfl, hp1⟩, h4⟩ := h2
  obtain rfl : c4 = [] := h4
  have hp : (szOk s && decide (d.size = 1)) = true := hpre
  simp only [Bool.and_eq_true, decide_eq_true_eq, szOk_iff] at hp
  obtain ⟨m, hm⟩ := hG.max
  refine Calls.mono (Tryz.strings_Split s d m w (by omega) hm (by omega)) ?_
  have hall := Go.Lib.splitB_all d (by omega) 0 _ s rfl
  have heq := split_eq d hp.2 _ s rfl
  rw [heq] at hall ⊢
  have hle := splitS_le s d
  rintro e w' ⟨rfl, rfl⟩
  rw [← hall]
  generalize hxs : splitS s d = xs at hle ⊢
  have hF : cSplitS.F (s, d, ()) = (xs, ()) := by rw [← hxs]; rfl
  rw [hF]
  refine ⟨Below.alloc (Below.refl _ _) (Nat.le_refl _) _, [.slice (some ⟨w.heap.size, 0, none⟩) xs.length xs.length], rfl, ⟨_, [], rfl, ⟨_, _, rfl, Nat.le_refl _, by simp only; unfold maxLen; omega, fun _ => ⟨w.heap.size, 0, rfl, .inr ⟨Nat.le_refl _, by simp⟩, fun i x hi => ?_⟩⟩, rfl⟩, fun h => by cases h⟩
  refine ⟨[.string x], ⟨rfl, ?_⟩, fun j v hj => ?_⟩
  · have := hle.1 x (List.mem_of_getElem? hi)
    unfold maxLen at *; omega
  · match j, hj with
    | 0, hj =>
      simp only [List.getElem?_cons_zero, Option.some.injEq] at hj
      subst hj
      have hh : (w.alloc (.cells (xs.map Value.string).toArray 9)).heap[w.heap.size]? = some (.cells (xs.map Value.string).toArray 9) := heap_alloc_new w _
      have hi' : xs[i]? = some x := hi
      simp only [World.cell?, Nat.zero_add, Nat.add_zero, Ty.size, Nat.mul_one, hh]
      simp [hi']
    | j + 1, hj => simp at hj

end Go.Proofs.YtfhlceooobabcaaGreatDoor.Wd
set_option linter.all false
namespace Go.Proofs
open Go Go.Eng Go.Lb Go.Ad Go.RowKit YtfhlceooobabcaaGreatDoor.Wd
set_option maxRecDepth 1000000
set_option maxHeartbeats 4000000

theorem fold_valid (hVal : Valid Tryz.prog GW 143 cValid) (s : ByteArray) (w : World) (hG : GW w) (hs : s.size ≤ maxLen) :
    Calls Tryz.prog 143 #[.slice (some ⟨w.heap.size, 0, none⟩) 1 1] (w.alloc (.cells #[.string s] 9)) fun e w' => e = .returned (.bool (validB s)) ∧ Below (w.heap.size + 1) (w.alloc (.cells #[.string s] 9)) w' := by
  have hb : Below w.heap.size w (w.alloc (.cells #[.string s] 9)) := Below.alloc (Below.refl _ _) (Nat.le_refl _) _
  have hsz : (w.alloc (.cells #[.string s] 9)).heap.size = w.heap.size + 1 := by simp
  have h := hVal.2 _ (gws _ _ hb hG) (fun b => b = w.heap.size) ([s], ()) [.slice (some ⟨w.heap.size, 0, none⟩) 1 1] (fun b hb => by rw [hsz]; omega)
    ⟨[.slice (some ⟨w.heap.size, 0, none⟩) 1 1], [], rfl, ⟨_, _, rfl, Nat.le_refl _, by unfold maxLen; omega, fun _ => ⟨w.heap.size, 0, rfl, rfl, fun i x hi => by
      match i, hi with
      | 0, hi =>
        have hi : s = x := by simpa using hi
        subst hi
        refine ⟨[.string s], ⟨rfl, hs⟩, fun j v hj => ?_⟩
        match j, hj with
        | 0, hj =>
          simp only [List.getElem?_cons_zero, Option.some.injEq] at hj
          subst hj
          have hh : (w.alloc (.cells #[.string s] 9)).heap[w.heap.size]? = some (.cells #[.string s] 9) := heap_alloc_new w _
          have hx : (w.alloc (.cells #[.string s] 9)).cell? ⟨w.heap.size, 0, none⟩ = some (.string s) := by
            unfold World.cell?
            simp only [hh]
            rfl
          simpa using hx
        | j + 1, hj => simp at hj
      | i + 1, hi => simp at hi⟩⟩, rfl⟩ (by
        show listOk [s] = true
        rw [listOk_iff]; simp)
  refine h.mono ?_
  rintro e w' ⟨h1, rs, he, h2, _⟩
  obtain ⟨c1, c2, rfl, h3, h4⟩ := h2
  obtain rfl : c1 = [.bool (allValid [s])] := h3
  obtain rfl : c2 = [] := h4
  have e1 : allValid [s] = validB s := by simp [allValid]
  rw [e1] at he
  rw [hsz] at h1
  exact ⟨he, h1⟩
theorem fold_c (n : Nat) (r : Int) (hr : r = (if (65 ≤ n ∧ n ≤ 90) ∨ (192 ≤ n ∧ n ≤ 222) then (n : Int) + 32 else (n : Int))) : r = ((foldC n : Nat) : Int) := by
  unfold foldC
  rw [hr]
  split <;> simp
theorem fold_no (hVal : Valid Tryz.prog GW 143 cValid) (s : ByteArray) (w : World) (hG : GW w) (hs : s.size ≤ maxLen) (hv : validB s = false) :
    Calls Tryz.prog 115 #[.string s] w fun e w' => e = .returned (.tuple #[.string ⟨#[]⟩, .int .i64 10]) ∧ Below w.heap.size w w' := by
  have hc := fold_valid hVal s w hG hs
  rw [hv] at hc
  go_enter Tryz.func115, Tryz.ntmps115
  go_wp2_with (go_at_call 143; refine hc.mono ?_; rintro e W ⟨rfl, hbW⟩)
  go_wp2
  go_ret2
  exact ⟨rfl, (Below.alloc (Below.refl _ _) (Nat.le_refl _) _).trans (hbW.mono (by omega))⟩
theorem fold_yes (hVal : Valid Tryz.prog GW 143 cValid) (s : ByteArray) (w : World) (hG : GW w) (hs : s.size ≤ maxLen) (hv : validB s = true) :
    Calls Tryz.prog 115 #[.string s] w fun e w' => e = .returned (.tuple #[.string (ofL (foldL (bytesL s))), .int .i64 0]) ∧ Below w.heap.size w w' := by
  have hc := fold_valid hVal s w hG hs
  rw [hv] at hc
  have h64 := valid_size hv
  go_enter Tryz.func115, Tryz.ntmps115
  go_wp2_with (go_at_call 143; refine hc.mono ?_; rintro e W ⟨rfl, hbW⟩)
  go_wp2
  have hb0 : Below w.heap.size w W := (Below.alloc (Below.refl _ _) (Nat.le_refl _) _).trans (hbW.mono (by omega))
  go_loopw [] (fun wr => ∃ (pos : Nat) (acc : List UInt8), Go.Lib.IsBuilderF 181 5 W.heap.size W.heap.size (Go.Lib.byteCells acc) wr ∧ wr.heap[W.heap.size + 1]? = some (.stringIter s pos) ∧ Below W.heap.size W wr ∧ acc ++ foldL (restL s pos) = foldL (bytesL s) ∧ pos ≤ s.size ∧ acc.length ≤ 4 * pos) (fun wr => s.size - wr.iterPos (W.heap.size + 1))
  case atStart =>
    refine ⟨0, [], (Go.Lib.IsBuilderF.of (Go.Lib.fresh_isBuilder 181 5 W)).alloc _, ?_, ((Below.refl _ W).alloc (Nat.le_refl _) _).alloc (by simp) _, rfl, by omega, by simp⟩
    have := World.iter_heap (W.alloc (.cells #[.pointer none, .slice none 0 0] 181)) s 0
    simpa using this
  case round =>
    obtain ⟨pos, acc, hI, hit, hbw, hacc, hps, hal⟩ := hrel
    have hsz : W.heap.size + 1 < wr.heap.size := (Array.getElem?_eq_some_iff.1 hit).1
    by_cases hp : pos < s.size
    · have hnx : ∀ ty, (Instr.next (.pointer (some ⟨W.heap.size + 1, 0, none⟩)) true ty).run Tryz.prog wr = _ := fun ty => Go.Lib.run_next_any_at wr (W.heap.size + 1) s pos ty hit hp
      have hdl := decode_le s pos
      have hnp := nextP_le hp
      unfold nextP at hnp
      have hI2 := hI.iterAt hit (pos + (Utf8.decode s pos).2)
      have hit2 := Go.Lib.iterAt_heap wr (W.heap.size + 1) s pos (pos + (Utf8.decode s pos).2) hit
      have hbw2 := Go.Lib.below_iterAt hbw (k := W.heap.size + 1) (by omega) s (pos + (Utf8.decode s pos).2)
      have hsz2 : W.heap.size ≤ (wr.iterAt (W.heap.size + 1) s (pos + (Utf8.decode s pos).2)).heap.size := by rw [Go.Lib.iterAt_size]; omega
      have hfr := foldL_rest hp
      have hra := runeAt_eq hp
      unfold runeAt at hra
      have hfi : foldIt (hd1 (restL s pos)) = Go.Lib.encodeRune ((foldC (Utf8.decode s pos).1 : Nat) : Int) := by
        unfold foldIt
        congr 2
        congr 1
        omega
      have hnp' : nextP s pos = pos + (Utf8.decode s pos).2 := rfl
      have on : ∀ (W1 : World) (r : Int), r = ((foldC (Utf8.decode s pos).1 : Nat) : Int) → Go.Lib.BuilderAtF 181 5 W.heap.size W.heap.size (.pointer (some ⟨W.heap.size, 0, none⟩)) (Go.Lib.byteCells acc ++ Go.Lib.runeCells r) W1 →
          Below W.heap.size (wr.iterAt (W.heap.size + 1) s (pos + (Utf8.decode s pos).2)) W1 → Go.Lib.OthersKept 5 (some W.heap.size) (wr.iterAt (W.heap.size + 1) s (pos + (Utf8.decode s pos).2)) W1 →
          (∃ (pos : Nat) (acc : List UInt8), Go.Lib.IsBuilderF 181 5 W.heap.size W.heap.size (Go.Lib.byteCells acc) W1 ∧ W1.heap[W.heap.size + 1]? = some (.stringIter s pos) ∧ Below W.heap.size W W1 ∧ acc ++ foldL (restL s pos) = foldL (bytesL s) ∧ pos ≤ s.size ∧ acc.length ≤ 4 * pos) ∧
            s.size - W1.iterPos (W.heap.size + 1) < s.size - wr.iterPos (W.heap.size + 1) := by
        intro W1 r hr h1 b1 k1
        have hl4 := enc_len r
        refine ⟨⟨pos + (Utf8.decode s pos).2, acc ++ Go.Lib.encodeRune r, ?_, k1.iter hit2 (by omega), hbw2.trans b1, ?_, by omega, by simp; omega⟩, ?_⟩
        · rw [Go.Lib.byteCells_append, Go.Lib.byteCells_encodeRune]; exact Or.inr h1
        · rw [← hacc, hfr, hfi, hr, List.append_assoc, hnp']
        · simp only [World.iterPos, k1.iter hit2 (by omega), hit]
          omega
      clear hra hfi hfr
      go_wp2_with (go_at_call 144; refine (Tryz.Builder_WriteRune_k W.heap.size W.heap.size _ _ (by omega) (by omega) _ hI2 (by rw [Go.Lib.byteCells_length]; omega) hsz2).mono ?_; rintro e W1 ⟨rfl, h1, b1, k1⟩)
      all_goals (go_wp2; go_roundw)
      all_goals first
        | exact (on W1 _ (fold_c _ _ (by split <;> omega)) h1 b1 k1).1
        | exact (on W1 _ (fold_c _ _ (by split <;> omega)) h1 b1 k1).2
    · have hnx : ∀ ty, (Instr.next (.pointer (some ⟨W.heap.size + 1, 0, none⟩)) true ty).run Tryz.prog wr = _ := fun ty => Go.Lib.run_next_end_at wr (W.heap.size + 1) s pos ty hit hp
      go_wp2_with (go_at_call 141; refine (Tryz.Builder_String_any_k W.heap.size W.heap.size acc _ hI (by omega)).mono ?_)
      rintro e W1 ⟨rfl, _, b1, _⟩
      go_wp2
      go_ret2
      rw [restL_end (by omega)] at hacc
      have hacc : acc = foldL (bytesL s) := by
        have e : foldL [] = [] := rfl
        rw [e, List.append_nil] at hacc; exact hacc
      subst hacc
      exact ⟨rfl, hb0.trans ((hbw.trans b1).mono (by have := hb0.size; omega))⟩
theorem valFold (hVal : Valid Tryz.prog GW 143 cValid) : Valid Tryz.prog GW 115 cFold := by
  refine ⟨⟨Tryz.f115, Tryz.func115, by kernel_rfl, rfl⟩, fun w hG S x cs hS hx hpre => ?_⟩
  obtain ⟨s, ⟨⟩⟩ := x
  obtain ⟨c1, c2, rfl, ⟨rfl, hs1⟩, h2⟩ := hx
  obtain rfl : c2 = [] := h2
  have hp : s.size ≤ maxLen := hs1
  have hF : cFold.F (s, ()) = (fold1 s, (fold2 s, ())) := rfl
  rw [hF]
  have hsz := fold1_size s
  have fin : ∀ (a : ByteArray) (b : Int), a = fold1 s → b = fold2 s → ∀ e w', (e = Ending.returned (.tuple #[.string a, .int .i64 b]) ∧ Below w.heap.size w w') → (Below w.heap.size w w' ∧ ∃ rs, e = .returned (retV cFold.r rs) ∧ RdC Tryz.prog cFold.r (fun b => S b ∨ w.heap.size ≤ b ∧ b < w'.heap.size) w' (fold1 s, (fold2 s, ())) rs ∧ (cFold.clip = true → ∃ base n, retV cFold.r rs = .slice base n n)) := by
    rintro a b rfl rfl e w' ⟨rfl, hb⟩
    refine ⟨hb, [.string (fold1 s), .int .i64 (fold2 s)], rfl, ⟨[.string (fold1 s)], [.int .i64 (fold2 s)], rfl, ⟨rfl, by simp only; unfold maxLen; omega⟩, [.int .i64 (fold2 s)], [], rfl, ⟨rfl, ?_⟩, rfl⟩, fun h => by cases h⟩
    simp only [fold2]
    cases validB s <;> decide
  cases hv : validB s with
  | false => exact (fold_no hVal s w hG hp hv).mono (fin _ _ (by rw [fold1, hv]; rfl) (by rw [fold2, hv]; rfl))
  | true => exact (fold_yes hVal s w hG hp hv).mono (fin _ _ (by rw [fold1, hv]; rfl) (by rw [fold2, hv]; rfl))
end Go.Proofs
namespace Go.Proofs.YtfhlceooobabcaaGreatDoor.Wd
open Go Go.Eng Go.Lb Go.Ad
set_option maxRecDepth 100000
theorem val193 : Valid Tryz.prog GW 193 cLetter := mkValid gws Tb.mix Tb.tab_ok Tb.eqs_ok g193 rfl allV_nil allI_nil Tryz.func193 (by kernel_rfl) v193
theorem val183 : Valid Tryz.prog GW 183 cSign := mkValid gws Tb.mix Tb.tab_ok Tb.eqs_ok g183 rfl (allV_cons val193 allV_nil) allI_nil Tryz.func183 (by kernel_rfl) v183
theorem val168 : Valid Tryz.prog GW 168 cPart := mkValid gws Tb.mix Tb.tab_ok Tb.eqs_ok g168 rfl (allV_cons val183 allV_nil) allI_nil Tryz.func168 (by kernel_rfl) v168
theorem val143 : Valid Tryz.prog GW 143 cValid := mkValid gws Tb.mix Tb.tab_ok Tb.eqs_ok g143 rfl (allV_cons valSplitS (allV_cons val168 allV_nil)) allI_nil Tryz.func143 (by kernel_rfl) v143
theorem val45 : Valid Tryz.prog GW 45 cMay := mkValid gws Tb.mix Tb.tab_ok Tb.eqs_ok g45 rfl allV_nil allI_nil Tryz.func45 (by kernel_rfl) v45
end Go.Proofs.YtfhlceooobabcaaGreatDoor.Wd
set_option maxRecDepth 100000
namespace Go.Proofs.YtfhlceooobabcaaGreatDoor.Wd
open Go Go.Eng Go.Lb Go.Ad
abbrev ZoneT : Ty := .cons .str (.cons (.sl AdL) .unit)
abbrev FatT : Ty := .cons AdT (.cons (.sl I8) .unit)
abbrev PlanT : Ty := .cons (.sl ZoneT) (.cons (.sl FatT) (.cons I64 (.cons (.sl I64) .unit)))
abbrev Zn := ByteArray × List (List Ad) × Unit
abbrev Ft := Ad × List Int × Unit
abbrev Pl := List Zn × List Ft × Int × List Int × Unit
/-! what may be -/
def rowOk (l : List Ad) : Bool := decide (l.length ≤ 16) && (mayA l && decide l.Nodup)
def zoneOk (z : Zn) : Bool := (validB z.1 && decide (fold1 z.1 = z.1)) && (decide (1 ≤ z.2.1.length) && (decide (z.2.1.length ≤ 32) && z.2.1.all rowOk))
def fateIn (x : Int) : Bool := decide (0 ≤ x) && decide (x ≤ 2)
def fateOk (f : Ft) : Bool := may1 f.1 && (decide (1 ≤ f.2.1.length) && (decide (f.2.1.length ≤ 32) && f.2.1.all fateIn))
def dropOk (n : Int) : Bool := decide (0 ≤ n)
def nameOf (z : Zn) : ByteArray := z.1
def adOf (f : Ft) : Ad := f.1
def unlN (l : List Zn) : Bool := decide (l.map nameOf).Nodup
def unlF (l : List Ft) : Bool := decide (l.map adOf).Nodup
def checkB (p : Pl) : Bool := (decide (p.1.length ≤ 8) && p.1.all zoneOk) && (unlN p.1 && ((decide (p.2.1.length ≤ 32) && p.2.1.all fateOk) && (unlF p.2.1 && (decide (0 ≤ p.2.2.1) && (decide (p.2.2.1 ≤ 200) && (decide (p.2.2.2.1.length ≤ 16) && p.2.2.2.1.all dropOk))))))
def check (p : Pl) : Int := bif checkB p then 0 else 90
/-! where the first one stands -/
def idxZ {α : Type} (p : α → Bool) (l : List α) : Int := bif l.any p then (l.findIdx p : Nat) else -1
def adIs (a : Ad) (f : Ft) : Bool := decide (f.1 = a)
def fateRow (p : Pl) (a : Ad) : List Int := match p.2.1.find? (adIs a) with
  | some f => f.2.1
  | none => []
def fateAt (l : List Int) (n : Int) : Int := bif decide (l.length = 0) then 1 else l.getD (min (max n 0) ((l.length : Int) - 1)).toNat 0
def fateF (p : Pl) (a : Ad) (n : Int) : Int := fateAt (fateRow p a) n
/-! contracts -/
def cRowOk : Contract := conD (.cons AdL .unit) (.cons .bool .unit) (fun _ => true) fun x => (rowOk x.1, ())
def cZone : Contract := conD (.cons ZoneT .unit) (.cons .bool .unit) (fun _ => true) fun x => (zoneOk x.1, ())
def cFat : Contract := conD (.cons FatT .unit) (.cons .bool .unit) (fun _ => true) fun x => (fateOk x.1, ())
def cDropOk : Contract := conD (.cons I64 .unit) (.cons .bool .unit) (fun _ => true) fun x => (dropOk x.1, ())
def cCheck : Contract := conD (.cons PlanT .unit) (.cons I64 .unit) (fun _ => true) fun x => (check x.1, ())
def okF (f : Ft) : Bool := decide (f.2.1.length ≤ 1000000)
def okP (p : Pl) : Bool := decide (p.2.1.length ≤ 1000000) && p.2.1.all okF
def cFate : Contract := conD (.cons PlanT (.cons AdT (.cons I64 .unit))) (.cons I8 .unit) (fun x => okP x.1) fun x => (fateF x.1 x.2.1 x.2.2.1, ())
/-! loops -/
structure IdxI {α : Type} (p : α → Bool) (l : List α) (i : Int) : Prop where
  i0 : 0 ≤ i
  i1 : i ≤ l.length
  a : (l.take i.toNat).any p = false
def idxL (nx : Nat) (t : Ty) (p : St → t.El → Bool) : LoopAnn where
  α := Int
  keep := [0, 1, 6, 7]
  okeep := []
  nxt := nx
  env := fun _ x => [(8, .dat I64 x)]
  own := fun _ _ => []
  inv := fun s x => IdxI (p s) (bDat (.sl t) s 0).out x
  mu := fun s x => List.length (α := t.El) (bDat (.sl t) s 0).out - x.toNat
  pick := some fun _ s => (bDat I64 s 8).out
structure UnlI {α κ : Type} [DecidableEq κ] (k : α → κ) (l : List α) (i : Int) (n : Nat) (f : κ → Option Int) : Prop where
  i0 : 0 ≤ i
  i1 : i ≤ l.length
  n : n = i.toNat
  f : ∀ x, f x = bif decide (x ∈ (l.take i.toNat).map k) then some 1 else none
  d : ((l.take i.toNat).map k).Nodup
def unlA (mo nx : Nat) : LoopAnn where
  α := Int × Nat × (Ad → Option Int)
  keep := [0, 1, 10, 11]
  okeep := []
  nxt := nx
  env := fun _ x => [(12, .dat I64 x.1), (5, .own mo)]
  own := fun _ x => [(mo, .map 166 AdT I64 x.2.1 x.2.2)]
  inv := fun s x => UnlI (fun a : Ad => a) (bDat AdL s 0).out x.1 x.2.1 x.2.2
  mu := fun s x => List.length (α := Ad) (bDat AdL s 0).out - x.1.toNat
  pick := some fun _ s => ((bDat I64 s 12).out, (bMap AdT I64 s 5).out)
def unlZ (mo nx : Nat) : LoopAnn where
  α := Int × Nat × (ByteArray → Option Int)
  keep := [0, 1, 10, 11]
  okeep := []
  nxt := nx
  env := fun _ x => [(12, .dat I64 x.1), (5, .own mo)]
  own := fun _ x => [(mo, .map 150 .str I64 x.2.1 x.2.2)]
  inv := fun s x => UnlI nameOf (bDat (.sl ZoneT) s 0).out x.1 x.2.1 x.2.2
  mu := fun s x => List.length (α := Zn) (bDat (.sl ZoneT) s 0).out - x.1.toNat
  pick := some fun _ s => ((bDat I64 s 12).out, (bMap .str I64 s 5).out)
def unlFt (mo nx : Nat) : LoopAnn where
  α := Int × Nat × (Ad → Option Int)
  keep := [0, 1, 10, 11]
  okeep := []
  nxt := nx
  env := fun _ x => [(12, .dat I64 x.1), (5, .own mo)]
  own := fun _ x => [(mo, .map 166 AdT I64 x.2.1 x.2.2)]
  inv := fun s x => UnlI adOf (bDat (.sl FatT) s 0).out x.1 x.2.1 x.2.2
  mu := fun s x => List.length (α := Ft) (bDat (.sl FatT) s 0).out - x.1.toNat
  pick := some fun _ s => ((bDat I64 s 12).out, (bMap AdT I64 s 5).out)
/-- what a function's first captured variable holds -/
def capDat (t : Ty) (s : St) (k : Nat) : Box t.El := match Go.Eng.look s.env k with
  | .fn _ (.pt o off :: _) => match lookO s.own o with
    | .cells _ ds => match gather s.own t (ds.drop off) with
      | some (y, _) => ⟨y⟩
      | none => ⟨t.zero⟩
    | _ => ⟨t.zero⟩
  | _ => ⟨t.zero⟩
def notB {α : Type} (p : α → Bool) (a : α) : Bool := !p a
end Go.Proofs.YtfhlceooobabcaaGreatDoor.Wd
namespace Go.Proofs.YtfhlceooobabcaaGreatDoor.Wd
open Go Go.Eng Go.Lb Go.Ad
set_option maxRecDepth 100000
noncomputable def g117 : Cfg := { tab := Tb.tab, cons := [(45, cMay)], inls := [(118, Tryz.f118), (119, Tryz.f119)], loops := [(1190003, unlA 2000 3000)], cuts := [], unroll := false, arrs := [], keys := [47] }
noncomputable def g79 : Cfg := { tab := Tb.tab, cons := [(45, cMay), (115, cFold), (117, cRowOk)], inls := [(68, Tryz.f68), (80, Tryz.f80), (107, Tryz.f107), (116, Tryz.f116), (120, Tryz.f120), (121, Tryz.f121), (145, Tryz.f145), (146, Tryz.f146), (147, Tryz.f147), (170, Tryz.f170)], loops := [(1710002, idxL 3000 AdL fun _ => notB rowOk)], cuts := [], unroll := false, arrs := [], keys := [] }
noncomputable def g81 : Cfg := { tab := Tb.tab, cons := [(45, cMay), (115, cFold)], inls := [(68, Tryz.f68), (80, Tryz.f80), (107, Tryz.f107), (116, Tryz.f116), (120, Tryz.f120), (121, Tryz.f121), (145, Tryz.f145), (146, Tryz.f146), (147, Tryz.f147), (170, Tryz.f170)], loops := [(1080002, idxL 3000 I8 fun _ => notB fateIn)], cuts := [], unroll := false, arrs := [], keys := [] }
noncomputable def g82 : Cfg := { tab := Tb.tab, cons := [(45, cMay), (115, cFold)], inls := [(68, Tryz.f68), (80, Tryz.f80), (107, Tryz.f107), (116, Tryz.f116), (120, Tryz.f120), (121, Tryz.f121), (145, Tryz.f145), (146, Tryz.f146), (147, Tryz.f147), (170, Tryz.f170)], loops := [], cuts := [], unroll := false, arrs := [], keys := [] }
noncomputable def g36 : Cfg := { tab := Tb.tab, cons := [(79, cZone), (81, cFat), (82, cDropOk)], inls := [(60, Tryz.f60), (83, Tryz.f83), (84, Tryz.f84), (85, Tryz.f85), (86, Tryz.f86), (87, Tryz.f87), (88, Tryz.f88), (89, Tryz.f89), (104, Tryz.f104), (122, Tryz.f122), (123, Tryz.f123), (124, Tryz.f124), (125, Tryz.f125), (126, Tryz.f126), (127, Tryz.f127), (148, Tryz.f148)], loops := [(610002, idxL 3000 ZoneT fun _ => notB zoneOk), (850003, unlZ 3900 4000), (1050002, idxL 5000 FatT fun _ => notB fateOk), (880003, unlFt 5900 6000), (1490002, idxL 7000 I64 fun _ => notB dropOk)], cuts := [], unroll := false, arrs := [], keys := [47] }
noncomputable def g27 : Cfg := { tab := Tb.tab, cons := [], inls := [(64, Tryz.f64), (65, Tryz.f65), (104, Tryz.f104), (105, Tryz.f105)], loops := [(1050002, idxL 3000 FatT fun s => adIs (capDat AdT s 1).out)], cuts := [], unroll := false, arrs := [], keys := [] }
end Go.Proofs.YtfhlceooobabcaaGreatDoor.Wd
namespace Go.Proofs.YtfhlceooobabcaaGreatDoor.Wd
open Go Go.Eng Go.Lb Go.Ad
set_option maxRecDepth 100000
theorem v117_eq : vcFn g117 300 Tryz.f117 cRowOk = ( ∀ (x : List (Int × (Int × Int × Int × Int × Int × Int × Int × Int × Unit) × Int × Unit) × Unit), Wr (Bool.true = Bool.true) → Wr (Decidable.decide ((↑(List.length x.fst) : Int) ≤ (16 : Int)) = Bool.true → lenA x.fst =
  Bool.true) ∧ bcase (Decidable.decide ((↑(List.length x.fst) : Int) ≤ (16 : Int)) && Go.Ad.mayA x.fst) ((Wr (UnlI (fun (a : Int × (Int × Int × Int × Int × Int × Int × Int × Int × Unit) × Int × Unit) => a) x.fst (0 : Int)
  (0 : Nat) fun (x : Int × (Int × Int × Int × Int × Int × Int × Int × Int × Unit) × Int × Unit) => noneO Int) ∧ Wr ((0 : Int) = (0 : Int)) ∧ Wr (x.fst = x.fst) ∧ Wr (x.fst = x.fst) ∧ Wr ((↑(List.length x.fst) : Int) =
  (↑(List.length x.fst) : Int)) ∧ Wr ((0 : Nat) ≤ (0 : Nat)) ∧ Wr ((fun (x : Int × (Int × Int × Int × Int × Int × Int × Int × Int × Unit) × Int × Unit) => noneO Int) = fun (x : Int × (Int × Int × Int × Int × Int × Int ×
  Int × Int × Unit) × Int × Unit) => noneO Int)) ∧ ∀ (x_1 : Int × Nat × (Int × (Int × Int × Int × Int × Int × Int × Int × Int × Unit) × Int × Unit → Option Int)), Wr (UnlI (fun (a : Int × (Int × Int × Int × Int × Int ×
  Int × Int × Int × Unit) × Int × Unit) => a) x.fst x_1.fst x_1.snd.fst x_1.snd.snd) → bcase (Decidable.decide (x_1.fst < (↑(List.length x.fst) : Int))) (Wr ((0 : Int) ≤ x_1.fst) ∧ Wr (x_1.fst < (↑(List.length x.fst) :
  Int)) ∧ Wr (Bool.true = Bool.true) ∧ Wr (x_1.snd.fst < Go.maxLen) ∧ bcase (Decidable.decide (Option.getD (updF AdT I64 x_1.snd.snd (List.getD x.fst (Int.toNat x_1.fst) (Ty.zero AdT)) (IntKind.wrap IntKind.i64
  (Option.getD (x_1.snd.snd (List.getD x.fst (Int.toNat x_1.fst) (Ty.zero AdT))) (0 : Int) + (1 : Int))) (List.getD x.fst (Int.toNat x_1.fst) (Ty.zero AdT))) (0 : Int) > (1 : Int))) ((Bool.true && Bool.false, ()) = (rowOk
  x.fst, ())) (Wr (UnlI (fun (a : Int × (Int × Int × Int × Int × Int × Int × Int × Int × Unit) × Int × Unit) => a) x.fst (IntKind.wrap IntKind.i64 (x_1.fst + (1 : Int))) (x_1.snd.fst + (1 : Nat)) (updF AdT I64 x_1.snd.snd
  (List.getD x.fst (Int.toNat x_1.fst) (Ty.zero AdT)) (IntKind.wrap IntKind.i64 (Option.getD (x_1.snd.snd (List.getD x.fst (Int.toNat x_1.fst) (Ty.zero AdT))) (0 : Int) + (1 : Int))))) ∧ Wr (List.length x.fst - Int.toNat
  (IntKind.wrap IntKind.i64 (x_1.fst + (1 : Int))) < List.length x.fst - Int.toNat x_1.fst) ∧ Wr (IntKind.wrap IntKind.i64 (x_1.fst + (1 : Int)) = IntKind.wrap IntKind.i64 (x_1.fst + (1 : Int))) ∧ Wr (x.fst = x.fst) ∧ Wr
  (x.fst = x.fst) ∧ Wr ((↑(List.length x.fst) : Int) = (↑(List.length x.fst) : Int)) ∧ Wr (x_1.snd.fst + (1 : Nat) ≤ x_1.snd.fst + (1 : Nat)) ∧ Wr (updF AdT I64 x_1.snd.snd (List.getD x.fst (Int.toNat x_1.fst) (Ty.zero
  AdT)) (IntKind.wrap IntKind.i64 (Option.getD (x_1.snd.snd (List.getD x.fst (Int.toNat x_1.fst) (Ty.zero AdT))) (0 : Int) + (1 : Int))) = updF AdT I64 x_1.snd.snd (List.getD x.fst (Int.toNat x_1.fst) (Ty.zero AdT))
  (IntKind.wrap IntKind.i64 (Option.getD (x_1.snd.snd (List.getD x.fst (Int.toNat x_1.fst) (Ty.zero AdT))) (0 : Int) + (1 : Int)))))) ((Bool.true && Bool.true, ()) = (rowOk x.fst, ()))) ((!Bool.true && Bool.false, ()) =
  (rowOk x.fst, ()))) := by kernel_rfl
theorem v79_eq : vcFn g79 300 Tryz.f79 cZone = ( ∀ (x : (ByteArray × List (List (Int × (Int × Int × Int × Int × Int × Int × Int × Int × Unit) × Int × Unit)) × Unit) × Unit), Wr (Bool.true = Bool.true) → Wr (Bool.true = Bool.true) ∧ bcase (Decidable.decide (Go.Lb.fold2
  x.fst.fst = (0 : Int)) && Decidable.decide (Go.Lb.fold1 x.fst.fst = x.fst.fst)) (bcase (Decidable.decide ((↑(List.length x.fst.snd.fst) : Int) ≥ (1 : Int)) && Decidable.decide ((↑(List.length x.fst.snd.fst) : Int) ≤ (32
  : Int))) ((Wr (IdxI (notB rowOk) x.fst.snd.fst (0 : Int)) ∧ Wr ((0 : Int) = (0 : Int)) ∧ Wr (x.fst.snd.fst = x.fst.snd.fst) ∧ Wr (x.fst.snd.fst = x.fst.snd.fst) ∧ Wr ((↑(List.length x.fst.snd.fst) : Int) =
  (↑(List.length x.fst.snd.fst) : Int)) ∧ Wr (x.fst.fst = x.fst.fst) ∧ Wr (x.fst.snd.fst = x.fst.snd.fst) ∧ Wr (x.fst.fst = x.fst.fst) ∧ Wr (x.fst.snd.fst = x.fst.snd.fst) ∧ Wr (x.fst.fst = x.fst.fst) ∧ Wr (x.fst.snd.fst
  = x.fst.snd.fst)) ∧ ∀ (x_1 : Int), Wr (IdxI (notB rowOk) x.fst.snd.fst x_1) → bcase (Decidable.decide (x_1 < (↑(List.length x.fst.snd.fst) : Int))) (Wr ((0 : Int) ≤ x_1) ∧ Wr (x_1 < (↑(List.length x.fst.snd.fst) : Int))
  ∧ Wr (Bool.true = Bool.true) ∧ Wr (Bool.true = Bool.true) ∧ bcase (!rowOk (List.getD x.fst.snd.fst (Int.toNat x_1) (Ty.zero (Ty.sl (Ty.cons (Ty.int IntKind.i8) (Ty.cons (Ty.arr (8 : Nat) (Ty.int IntKind.u16)) (Ty.cons
  (Ty.int IntKind.i64) Ty.unit))))))) ((Bool.true && (Bool.true && !Decidable.decide (x_1 ≥ (0 : Int))), ()) = (zoneOk x.fst, ())) (Wr (IdxI (notB rowOk) x.fst.snd.fst (IntKind.wrap IntKind.i64 (x_1 + (1 : Int)))) ∧ Wr
  (List.length x.fst.snd.fst - Int.toNat (IntKind.wrap IntKind.i64 (x_1 + (1 : Int))) < List.length x.fst.snd.fst - Int.toNat x_1) ∧ Wr (IntKind.wrap IntKind.i64 (x_1 + (1 : Int)) = IntKind.wrap IntKind.i64 (x_1 + (1 :
  Int))) ∧ Wr (x.fst.snd.fst = x.fst.snd.fst) ∧ Wr (x.fst.snd.fst = x.fst.snd.fst) ∧ Wr ((↑(List.length x.fst.snd.fst) : Int) = (↑(List.length x.fst.snd.fst) : Int)) ∧ Wr (x.fst.fst = x.fst.fst) ∧ Wr (x.fst.snd.fst =
  x.fst.snd.fst) ∧ Wr (x.fst.fst = x.fst.fst) ∧ Wr (x.fst.snd.fst = x.fst.snd.fst) ∧ Wr (x.fst.fst = x.fst.fst) ∧ Wr (x.fst.snd.fst = x.fst.snd.fst))) ((Bool.true && (Bool.true && !Decidable.decide ((-1 : Int) ≥ (0 :
  Int))), ()) = (zoneOk x.fst, ()))) ((Bool.true && (!Bool.true && Bool.false), ()) = (zoneOk x.fst, ()))) ((!Bool.true && Bool.false, ()) = (zoneOk x.fst, ()))) := by kernel_rfl
theorem v81_eq : vcFn g81 300 Tryz.f81 cFat = ( ∀ (x : ((Int × (Int × Int × Int × Int × Int × Int × Int × Int × Unit) × Int × Unit) × List Int × Unit) × Unit), Wr (Bool.true = Bool.true) → Wr (lenA (x.fst.fst :: nilL (Int × (Int × Int × Int × Int × Int × Int × Int ×
  Int × Unit) × Int × Unit)) = Bool.true) ∧ bcase (Go.Ad.mayA (x.fst.fst :: nilL (Int × (Int × Int × Int × Int × Int × Int × Int × Int × Unit) × Int × Unit))) (bcase (Decidable.decide ((↑(List.length x.fst.snd.fst) : Int)
  ≥ (1 : Int)) && Decidable.decide ((↑(List.length x.fst.snd.fst) : Int) ≤ (32 : Int))) ((Wr (IdxI (notB fateIn) x.fst.snd.fst (0 : Int)) ∧ Wr ((0 : Int) = (0 : Int)) ∧ Wr (x.fst.snd.fst = x.fst.snd.fst) ∧ Wr
  (x.fst.snd.fst = x.fst.snd.fst) ∧ Wr ((↑(List.length x.fst.snd.fst) : Int) = (↑(List.length x.fst.snd.fst) : Int)) ∧ Wr (x.fst.fst :: nilL (Int × (Int × Int × Int × Int × Int × Int × Int × Int × Unit) × Int × Unit) =
  x.fst.fst :: nilL (Int × (Int × Int × Int × Int × Int × Int × Int × Int × Unit) × Int × Unit)) ∧ Wr (x.fst.fst.fst = x.fst.fst.fst) ∧ Wr (x.fst.fst.snd.fst.fst = x.fst.fst.snd.fst.fst) ∧ Wr (x.fst.fst.snd.fst.snd.fst =
  x.fst.fst.snd.fst.snd.fst) ∧ Wr (x.fst.fst.snd.fst.snd.snd.fst = x.fst.fst.snd.fst.snd.snd.fst) ∧ Wr (x.fst.fst.snd.fst.snd.snd.snd.fst = x.fst.fst.snd.fst.snd.snd.snd.fst) ∧ Wr (x.fst.fst.snd.fst.snd.snd.snd.snd.fst =
  x.fst.fst.snd.fst.snd.snd.snd.snd.fst) ∧ Wr (x.fst.fst.snd.fst.snd.snd.snd.snd.snd.fst = x.fst.fst.snd.fst.snd.snd.snd.snd.snd.fst) ∧ Wr (x.fst.fst.snd.fst.snd.snd.snd.snd.snd.snd.fst =
  x.fst.fst.snd.fst.snd.snd.snd.snd.snd.snd.fst) ∧ Wr (x.fst.fst.snd.fst.snd.snd.snd.snd.snd.snd.snd.fst = x.fst.fst.snd.fst.snd.snd.snd.snd.snd.snd.snd.fst) ∧ Wr (x.fst.fst.snd.snd.fst = x.fst.fst.snd.snd.fst) ∧ Wr
  (x.fst.snd.fst = x.fst.snd.fst) ∧ Wr (x.fst.fst.fst = x.fst.fst.fst) ∧ Wr (x.fst.fst.snd.fst.fst = x.fst.fst.snd.fst.fst) ∧ Wr (x.fst.fst.snd.fst.snd.fst = x.fst.fst.snd.fst.snd.fst) ∧ Wr (x.fst.fst.snd.fst.snd.snd.fst
  = x.fst.fst.snd.fst.snd.snd.fst) ∧ Wr (x.fst.fst.snd.fst.snd.snd.snd.fst = x.fst.fst.snd.fst.snd.snd.snd.fst) ∧ Wr (x.fst.fst.snd.fst.snd.snd.snd.snd.fst = x.fst.fst.snd.fst.snd.snd.snd.snd.fst) ∧ Wr
  (x.fst.fst.snd.fst.snd.snd.snd.snd.snd.fst = x.fst.fst.snd.fst.snd.snd.snd.snd.snd.fst) ∧ Wr (x.fst.fst.snd.fst.snd.snd.snd.snd.snd.snd.fst = x.fst.fst.snd.fst.snd.snd.snd.snd.snd.snd.fst) ∧ Wr
  (x.fst.fst.snd.fst.snd.snd.snd.snd.snd.snd.snd.fst = x.fst.fst.snd.fst.snd.snd.snd.snd.snd.snd.snd.fst) ∧ Wr (x.fst.fst.snd.snd.fst = x.fst.fst.snd.snd.fst) ∧ Wr (x.fst.snd.fst = x.fst.snd.fst) ∧ Wr (x.fst.fst.fst =
  x.fst.fst.fst) ∧ Wr (x.fst.fst.snd.fst.fst = x.fst.fst.snd.fst.fst) ∧ Wr (x.fst.fst.snd.fst.snd.fst = x.fst.fst.snd.fst.snd.fst) ∧ Wr (x.fst.fst.snd.fst.snd.snd.fst = x.fst.fst.snd.fst.snd.snd.fst) ∧ Wr
  (x.fst.fst.snd.fst.snd.snd.snd.fst = x.fst.fst.snd.fst.snd.snd.snd.fst) ∧ Wr (x.fst.fst.snd.fst.snd.snd.snd.snd.fst = x.fst.fst.snd.fst.snd.snd.snd.snd.fst) ∧ Wr (x.fst.fst.snd.fst.snd.snd.snd.snd.snd.fst =
  x.fst.fst.snd.fst.snd.snd.snd.snd.snd.fst) ∧ Wr (x.fst.fst.snd.fst.snd.snd.snd.snd.snd.snd.fst = x.fst.fst.snd.fst.snd.snd.snd.snd.snd.snd.fst) ∧ Wr (x.fst.fst.snd.fst.snd.snd.snd.snd.snd.snd.snd.fst =
  x.fst.fst.snd.fst.snd.snd.snd.snd.snd.snd.snd.fst) ∧ Wr (x.fst.fst.snd.snd.fst = x.fst.fst.snd.snd.fst) ∧ Wr (x.fst.snd.fst = x.fst.snd.fst)) ∧ ∀ (x_1 : Int), Wr (IdxI (notB fateIn) x.fst.snd.fst x_1) → bcase
  (Decidable.decide (x_1 < (↑(List.length x.fst.snd.fst) : Int))) (Wr ((0 : Int) ≤ x_1) ∧ Wr (x_1 < (↑(List.length x.fst.snd.fst) : Int)) ∧ Wr (Bool.true = Bool.true) ∧ bcase (!(Decidable.decide (List.getD x.fst.snd.fst
  (Int.toNat x_1) (0 : Int) ≥ (0 : Int)) && Decidable.decide (List.getD x.fst.snd.fst (Int.toNat x_1) (0 : Int) ≤ (2 : Int)))) ((Bool.true && (Bool.true && !Decidable.decide (x_1 ≥ (0 : Int))), ()) = (fateOk x.fst, ()))
  (Wr (IdxI (notB fateIn) x.fst.snd.fst (IntKind.wrap IntKind.i64 (x_1 + (1 : Int)))) ∧ Wr (List.length x.fst.snd.fst - Int.toNat (IntKind.wrap IntKind.i64 (x_1 + (1 : Int))) < List.length x.fst.snd.fst - Int.toNat x_1) ∧
  Wr (IntKind.wrap IntKind.i64 (x_1 + (1 : Int)) = IntKind.wrap IntKind.i64 (x_1 + (1 : Int))) ∧ Wr (x.fst.snd.fst = x.fst.snd.fst) ∧ Wr (x.fst.snd.fst = x.fst.snd.fst) ∧ Wr ((↑(List.length x.fst.snd.fst) : Int) =
  (↑(List.length x.fst.snd.fst) : Int)) ∧ Wr (x.fst.fst :: nilL (Int × (Int × Int × Int × Int × Int × Int × Int × Int × Unit) × Int × Unit) = x.fst.fst :: nilL (Int × (Int × Int × Int × Int × Int × Int × Int × Int × Unit)
  × Int × Unit)) ∧ Wr (x.fst.fst.fst = x.fst.fst.fst) ∧ Wr (x.fst.fst.snd.fst.fst = x.fst.fst.snd.fst.fst) ∧ Wr (x.fst.fst.snd.fst.snd.fst = x.fst.fst.snd.fst.snd.fst) ∧ Wr (x.fst.fst.snd.fst.snd.snd.fst =
  x.fst.fst.snd.fst.snd.snd.fst) ∧ Wr (x.fst.fst.snd.fst.snd.snd.snd.fst = x.fst.fst.snd.fst.snd.snd.snd.fst) ∧ Wr (x.fst.fst.snd.fst.snd.snd.snd.snd.fst = x.fst.fst.snd.fst.snd.snd.snd.snd.fst) ∧ Wr
  (x.fst.fst.snd.fst.snd.snd.snd.snd.snd.fst = x.fst.fst.snd.fst.snd.snd.snd.snd.snd.fst) ∧ Wr (x.fst.fst.snd.fst.snd.snd.snd.snd.snd.snd.fst = x.fst.fst.snd.fst.snd.snd.snd.snd.snd.snd.fst) ∧ Wr
  (x.fst.fst.snd.fst.snd.snd.snd.snd.snd.snd.snd.fst = x.fst.fst.snd.fst.snd.snd.snd.snd.snd.snd.snd.fst) ∧ Wr (x.fst.fst.snd.snd.fst = x.fst.fst.snd.snd.fst) ∧ Wr (x.fst.snd.fst = x.fst.snd.fst) ∧ Wr (x.fst.fst.fst =
  x.fst.fst.fst) ∧ Wr (x.fst.fst.snd.fst.fst = x.fst.fst.snd.fst.fst) ∧ Wr (x.fst.fst.snd.fst.snd.fst = x.fst.fst.snd.fst.snd.fst) ∧ Wr (x.fst.fst.snd.fst.snd.snd.fst = x.fst.fst.snd.fst.snd.snd.fst) ∧ Wr
  (x.fst.fst.snd.fst.snd.snd.snd.fst = x.fst.fst.snd.fst.snd.snd.snd.fst) ∧ Wr (x.fst.fst.snd.fst.snd.snd.snd.snd.fst = x.fst.fst.snd.fst.snd.snd.snd.snd.fst) ∧ Wr (x.fst.fst.snd.fst.snd.snd.snd.snd.snd.fst =
  x.fst.fst.snd.fst.snd.snd.snd.snd.snd.fst) ∧ Wr (x.fst.fst.snd.fst.snd.snd.snd.snd.snd.snd.fst = x.fst.fst.snd.fst.snd.snd.snd.snd.snd.snd.fst) ∧ Wr (x.fst.fst.snd.fst.snd.snd.snd.snd.snd.snd.snd.fst =
  x.fst.fst.snd.fst.snd.snd.snd.snd.snd.snd.snd.fst) ∧ Wr (x.fst.fst.snd.snd.fst = x.fst.fst.snd.snd.fst) ∧ Wr (x.fst.snd.fst = x.fst.snd.fst) ∧ Wr (x.fst.fst.fst = x.fst.fst.fst) ∧ Wr (x.fst.fst.snd.fst.fst =
  x.fst.fst.snd.fst.fst) ∧ Wr (x.fst.fst.snd.fst.snd.fst = x.fst.fst.snd.fst.snd.fst) ∧ Wr (x.fst.fst.snd.fst.snd.snd.fst = x.fst.fst.snd.fst.snd.snd.fst) ∧ Wr (x.fst.fst.snd.fst.snd.snd.snd.fst =
  x.fst.fst.snd.fst.snd.snd.snd.fst) ∧ Wr (x.fst.fst.snd.fst.snd.snd.snd.snd.fst = x.fst.fst.snd.fst.snd.snd.snd.snd.fst) ∧ Wr (x.fst.fst.snd.fst.snd.snd.snd.snd.snd.fst = x.fst.fst.snd.fst.snd.snd.snd.snd.snd.fst) ∧ Wr
  (x.fst.fst.snd.fst.snd.snd.snd.snd.snd.snd.fst = x.fst.fst.snd.fst.snd.snd.snd.snd.snd.snd.fst) ∧ Wr (x.fst.fst.snd.fst.snd.snd.snd.snd.snd.snd.snd.fst = x.fst.fst.snd.fst.snd.snd.snd.snd.snd.snd.snd.fst) ∧ Wr
  (x.fst.fst.snd.snd.fst = x.fst.fst.snd.snd.fst) ∧ Wr (x.fst.snd.fst = x.fst.snd.fst))) ((Bool.true && (Bool.true && !Decidable.decide ((-1 : Int) ≥ (0 : Int))), ()) = (fateOk x.fst, ()))) ((Bool.true && (!Bool.true &&
  Bool.false), ()) = (fateOk x.fst, ()))) ((!Bool.true && Bool.false, ()) = (fateOk x.fst, ()))) := by kernel_rfl
theorem v82_eq : vcFn g82 300 Tryz.f82 cDropOk = ( ∀ (x : Int × Unit), Wr (Bool.true = Bool.true) → (Decidable.decide (x.fst ≥ (0 : Int)), ()) = (dropOk x.fst, ())) := by kernel_rfl
theorem v36_eq : vcFn g36 300 Tryz.f36 cCheck = ( ∀ (x : (List (ByteArray × List (List (Int × (Int × Int × Int × Int × Int × Int × Int × Int × Unit) × Int × Unit)) × Unit) × List ((Int × (Int × Int × Int × Int × Int × Int × Int × Int × Unit) × Int × Unit) × List Int ×
  Unit) × Int × List Int × Unit) × Unit), Wr (Bool.true = Bool.true) → bcase (Decidable.decide ((↑(List.length x.fst.fst) : Int) ≥ (0 : Int)) && Decidable.decide ((↑(List.length x.fst.fst) : Int) ≤ (8 : Int))) ((Wr (IdxI
  (notB zoneOk) x.fst.fst (0 : Int)) ∧ Wr ((0 : Int) = (0 : Int)) ∧ Wr (x.fst.fst = x.fst.fst) ∧ Wr (x.fst.fst = x.fst.fst) ∧ Wr ((↑(List.length x.fst.fst) : Int) = (↑(List.length x.fst.fst) : Int)) ∧ Wr (x.fst.fst =
  x.fst.fst) ∧ Wr (x.fst.snd.fst = x.fst.snd.fst) ∧ Wr (x.fst.snd.snd.fst = x.fst.snd.snd.fst) ∧ Wr (x.fst.snd.snd.snd.fst = x.fst.snd.snd.snd.fst)) ∧ ∀ (x_1 : Int), Wr (IdxI (notB zoneOk) x.fst.fst x_1) → bcase
  (Decidable.decide (x_1 < (↑(List.length x.fst.fst) : Int))) (Wr ((0 : Int) ≤ x_1) ∧ Wr (x_1 < (↑(List.length x.fst.fst) : Int)) ∧ Wr (Bool.true = Bool.true) ∧ Wr (Bool.true = Bool.true) ∧ bcase (!zoneOk (List.getD
  x.fst.fst (Int.toNat x_1) (Ty.zero ZoneT))) (bcase (Bool.true && !Decidable.decide (x_1 ≥ (0 : Int))) ((Wr (UnlI nameOf x.fst.fst (0 : Int) (0 : Nat) fun (x : ByteArray) => noneO Int) ∧ Wr ((0 : Int) = (0 : Int)) ∧ Wr
  (x.fst.fst = x.fst.fst) ∧ Wr (x.fst.fst = x.fst.fst) ∧ Wr ((↑(List.length x.fst.fst) : Int) = (↑(List.length x.fst.fst) : Int)) ∧ Wr ((0 : Nat) ≤ (0 : Nat)) ∧ Wr ((fun (x : ByteArray) => noneO Int) = fun (x : ByteArray)
  => noneO Int) ∧ Wr ((List.getD x.fst.fst (Int.toNat x_1) (Ty.zero ZoneT)).fst = (List.getD x.fst.fst (Int.toNat x_1) (Ty.zero ZoneT)).fst) ∧ Wr ((List.getD x.fst.fst (Int.toNat x_1) (Ty.zero ZoneT)).snd.fst = (List.getD
  x.fst.fst (Int.toNat x_1) (Ty.zero ZoneT)).snd.fst) ∧ Wr (x.fst.fst = x.fst.fst) ∧ Wr (x.fst.snd.fst = x.fst.snd.fst) ∧ Wr (x.fst.snd.snd.fst = x.fst.snd.snd.fst) ∧ Wr (x.fst.snd.snd.snd.fst = x.fst.snd.snd.snd.fst)) ∧
  ∀ (x_2 : Int × Nat × (ByteArray → Option Int)), Wr (UnlI nameOf x.fst.fst x_2.fst x_2.snd.fst x_2.snd.snd) → bcase (Decidable.decide (x_2.fst < (↑(List.length x.fst.fst) : Int))) (Wr ((0 : Int) ≤ x_2.fst) ∧ Wr (x_2.fst
  < (↑(List.length x.fst.fst) : Int)) ∧ Wr (Bool.true = Bool.true) ∧ Wr (x_2.snd.fst < Go.maxLen) ∧ bcase (Decidable.decide (Option.getD (updF Ty.str I64 x_2.snd.snd (List.getD x.fst.fst (Int.toNat x_2.fst) (Ty.zero
  ZoneT)).fst (IntKind.wrap IntKind.i64 (Option.getD (x_2.snd.snd (List.getD x.fst.fst (Int.toNat x_2.fst) (Ty.zero ZoneT)).fst) (0 : Int) + (1 : Int))) (List.getD x.fst.fst (Int.toNat x_2.fst) (Ty.zero ZoneT)).fst) (0 :
  Int) > (1 : Int))) (((90 : Int), ()) = (check x.fst, ())) (Wr (UnlI nameOf x.fst.fst (IntKind.wrap IntKind.i64 (x_2.fst + (1 : Int))) (x_2.snd.fst + (1 : Nat)) (updF Ty.str I64 x_2.snd.snd (List.getD x.fst.fst
  (Int.toNat x_2.fst) (Ty.zero ZoneT)).fst (IntKind.wrap IntKind.i64 (Option.getD (x_2.snd.snd (List.getD x.fst.fst (Int.toNat x_2.fst) (Ty.zero ZoneT)).fst) (0 : Int) + (1 : Int))))) ∧ Wr (List.length x.fst.fst -
  Int.toNat (IntKind.wrap IntKind.i64 (x_2.fst + (1 : Int))) < List.length x.fst.fst - Int.toNat x_2.fst) ∧ Wr (IntKind.wrap IntKind.i64 (x_2.fst + (1 : Int)) = IntKind.wrap IntKind.i64 (x_2.fst + (1 : Int))) ∧ Wr
  (x.fst.fst = x.fst.fst) ∧ Wr (x.fst.fst = x.fst.fst) ∧ Wr ((↑(List.length x.fst.fst) : Int) = (↑(List.length x.fst.fst) : Int)) ∧ Wr (x_2.snd.fst + (1 : Nat) ≤ x_2.snd.fst + (1 : Nat)) ∧ Wr (updF Ty.str I64 x_2.snd.snd
  (List.getD x.fst.fst (Int.toNat x_2.fst) (Ty.zero ZoneT)).fst (IntKind.wrap IntKind.i64 (Option.getD (x_2.snd.snd (List.getD x.fst.fst (Int.toNat x_2.fst) (Ty.zero ZoneT)).fst) (0 : Int) + (1 : Int))) = updF Ty.str I64
  x_2.snd.snd (List.getD x.fst.fst (Int.toNat x_2.fst) (Ty.zero ZoneT)).fst (IntKind.wrap IntKind.i64 (Option.getD (x_2.snd.snd (List.getD x.fst.fst (Int.toNat x_2.fst) (Ty.zero ZoneT)).fst) (0 : Int) + (1 : Int)))) ∧ Wr
  ((List.getD x.fst.fst (Int.toNat x_1) (Ty.zero ZoneT)).fst = (List.getD x.fst.fst (Int.toNat x_1) (Ty.zero ZoneT)).fst) ∧ Wr ((List.getD x.fst.fst (Int.toNat x_1) (Ty.zero ZoneT)).snd.fst = (List.getD x.fst.fst
  (Int.toNat x_1) (Ty.zero ZoneT)).snd.fst) ∧ Wr (x.fst.fst = x.fst.fst) ∧ Wr (x.fst.snd.fst = x.fst.snd.fst) ∧ Wr (x.fst.snd.snd.fst = x.fst.snd.snd.fst) ∧ Wr (x.fst.snd.snd.snd.fst = x.fst.snd.snd.snd.fst))) (bcase
  (Decidable.decide ((↑(List.length x.fst.snd.fst) : Int) ≥ (0 : Int)) && Decidable.decide ((↑(List.length x.fst.snd.fst) : Int) ≤ (32 : Int))) ((Wr (IdxI (notB fateOk) x.fst.snd.fst (0 : Int)) ∧ Wr ((0 : Int) = (0 :
  Int)) ∧ Wr (x.fst.snd.fst = x.fst.snd.fst) ∧ Wr (x.fst.snd.fst = x.fst.snd.fst) ∧ Wr ((↑(List.length x.fst.snd.fst) : Int) = (↑(List.length x.fst.snd.fst) : Int)) ∧ Wr (x_2.snd.fst ≤ x_2.snd.fst) ∧ Wr (x_2.snd.snd =
  x_2.snd.snd) ∧ Wr ((List.getD x.fst.fst (Int.toNat x_1) (Ty.zero ZoneT)).fst = (List.getD x.fst.fst (Int.toNat x_1) (Ty.zero ZoneT)).fst) ∧ Wr ((List.getD x.fst.fst (Int.toNat x_1) (Ty.zero ZoneT)).snd.fst = (List.getD
  x.fst.fst (Int.toNat x_1) (Ty.zero ZoneT)).snd.fst) ∧ Wr (x.fst.fst = x.fst.fst) ∧ Wr (x.fst.snd.fst = x.fst.snd.fst) ∧ Wr (x.fst.snd.snd.fst = x.fst.snd.snd.fst) ∧ Wr (x.fst.snd.snd.snd.fst = x.fst.snd.snd.snd.fst)) ∧
  ∀ (x_3 : Int), Wr (IdxI (notB fateOk) x.fst.snd.fst x_3) → bcase (Decidable.decide (x_3 < (↑(List.length x.fst.snd.fst) : Int))) (Wr ((0 : Int) ≤ x_3) ∧ Wr (x_3 < (↑(List.length x.fst.snd.fst) : Int)) ∧ Wr (Bool.true =
  Bool.true) ∧ Wr (Bool.true = Bool.true) ∧ bcase (!fateOk (List.getD x.fst.snd.fst (Int.toNat x_3) (Ty.zero FatT))) (bcase (Bool.true && (Bool.true && !Decidable.decide (x_3 ≥ (0 : Int)))) ((Wr (UnlI adOf x.fst.snd.fst
  (0 : Int) (0 : Nat) fun (x : Int × (Int × Int × Int × Int × Int × Int × Int × Int × Unit) × Int × Unit) => noneO Int) ∧ Wr ((0 : Int) = (0 : Int)) ∧ Wr (x.fst.snd.fst = x.fst.snd.fst) ∧ Wr (x.fst.snd.fst =
  x.fst.snd.fst) ∧ Wr ((↑(List.length x.fst.snd.fst) : Int) = (↑(List.length x.fst.snd.fst) : Int)) ∧ Wr ((0 : Nat) ≤ (0 : Nat)) ∧ Wr ((fun (x : Int × (Int × Int × Int × Int × Int × Int × Int × Int × Unit) × Int × Unit)
  => noneO Int) = fun (x : Int × (Int × Int × Int × Int × Int × Int × Int × Int × Unit) × Int × Unit) => noneO Int) ∧ Wr ((List.getD x.fst.snd.fst (Int.toNat x_3) (Ty.zero FatT)).fst.fst = (List.getD x.fst.snd.fst
  (Int.toNat x_3) (Ty.zero FatT)).fst.fst) ∧ Wr ((List.getD x.fst.snd.fst (Int.toNat x_3) (Ty.zero FatT)).fst.snd.fst.fst = (List.getD x.fst.snd.fst (Int.toNat x_3) (Ty.zero FatT)).fst.snd.fst.fst) ∧ Wr ((List.getD
  x.fst.snd.fst (Int.toNat x_3) (Ty.zero FatT)).fst.snd.fst.snd.fst = (List.getD x.fst.snd.fst (Int.toNat x_3) (Ty.zero FatT)).fst.snd.fst.snd.fst) ∧ Wr ((List.getD x.fst.snd.fst (Int.toNat x_3) (Ty.zero
  FatT)).fst.snd.fst.snd.snd.fst = (List.getD x.fst.snd.fst (Int.toNat x_3) (Ty.zero FatT)).fst.snd.fst.snd.snd.fst) ∧ Wr ((List.getD x.fst.snd.fst (Int.toNat x_3) (Ty.zero FatT)).fst.snd.fst.snd.snd.snd.fst = (List.getD
  x.fst.snd.fst (Int.toNat x_3) (Ty.zero FatT)).fst.snd.fst.snd.snd.snd.fst) ∧ Wr ((List.getD x.fst.snd.fst (Int.toNat x_3) (Ty.zero FatT)).fst.snd.fst.snd.snd.snd.snd.fst = (List.getD x.fst.snd.fst (Int.toNat x_3)
  (Ty.zero FatT)).fst.snd.fst.snd.snd.snd.snd.fst) ∧ Wr ((List.getD x.fst.snd.fst (Int.toNat x_3) (Ty.zero FatT)).fst.snd.fst.snd.snd.snd.snd.snd.fst = (List.getD x.fst.snd.fst (Int.toNat x_3) (Ty.zero
  FatT)).fst.snd.fst.snd.snd.snd.snd.snd.fst) ∧ Wr ((List.getD x.fst.snd.fst (Int.toNat x_3) (Ty.zero FatT)).fst.snd.fst.snd.snd.snd.snd.snd.snd.fst = (List.getD x.fst.snd.fst (Int.toNat x_3) (Ty.zero
  FatT)).fst.snd.fst.snd.snd.snd.snd.snd.snd.fst) ∧ Wr ((List.getD x.fst.snd.fst (Int.toNat x_3) (Ty.zero FatT)).fst.snd.fst.snd.snd.snd.snd.snd.snd.snd.fst = (List.getD x.fst.snd.fst (Int.toNat x_3) (Ty.zero
  FatT)).fst.snd.fst.snd.snd.snd.snd.snd.snd.snd.fst) ∧ Wr ((List.getD x.fst.snd.fst (Int.toNat x_3) (Ty.zero FatT)).fst.snd.snd.fst = (List.getD x.fst.snd.fst (Int.toNat x_3) (Ty.zero FatT)).fst.snd.snd.fst) ∧ Wr
  ((List.getD x.fst.snd.fst (Int.toNat x_3) (Ty.zero FatT)).snd.fst = (List.getD x.fst.snd.fst (Int.toNat x_3) (Ty.zero FatT)).snd.fst) ∧ Wr (x_2.snd.fst ≤ x_2.snd.fst) ∧ Wr (x_2.snd.snd = x_2.snd.snd) ∧ Wr ((List.getD
  x.fst.fst (Int.toNat x_1) (Ty.zero ZoneT)).fst = (List.getD x.fst.fst (Int.toNat x_1) (Ty.zero ZoneT)).fst) ∧ Wr ((List.getD x.fst.fst (Int.toNat x_1) (Ty.zero ZoneT)).snd.fst = (List.getD x.fst.fst (Int.toNat x_1)
  (Ty.zero ZoneT)).snd.fst) ∧ Wr (x.fst.fst = x.fst.fst) ∧ Wr (x.fst.snd.fst = x.fst.snd.fst) ∧ Wr (x.fst.snd.snd.fst = x.fst.snd.snd.fst) ∧ Wr (x.fst.snd.snd.snd.fst = x.fst.snd.snd.snd.fst)) ∧ ∀ (x_4 : Int × Nat × (Int
  × (Int × Int × Int × Int × Int × Int × Int × Int × Unit) × Int × Unit → Option Int)), Wr (UnlI adOf x.fst.snd.fst x_4.fst x_4.snd.fst x_4.snd.snd) → bcase (Decidable.decide (x_4.fst < (↑(List.length x.fst.snd.fst) :
  Int))) (Wr ((0 : Int) ≤ x_4.fst) ∧ Wr (x_4.fst < (↑(List.length x.fst.snd.fst) : Int)) ∧ Wr (Bool.true = Bool.true) ∧ Wr (x_4.snd.fst < Go.maxLen) ∧ bcase (Decidable.decide (Option.getD (updF AdT I64 x_4.snd.snd
  (List.getD x.fst.snd.fst (Int.toNat x_4.fst) (Ty.zero FatT)).fst (IntKind.wrap IntKind.i64 (Option.getD (x_4.snd.snd (List.getD x.fst.snd.fst (Int.toNat x_4.fst) (Ty.zero FatT)).fst) (0 : Int) + (1 : Int))) (List.getD
  x.fst.snd.fst (Int.toNat x_4.fst) (Ty.zero FatT)).fst) (0 : Int) > (1 : Int))) (((90 : Int), ()) = (check x.fst, ())) (Wr (UnlI adOf x.fst.snd.fst (IntKind.wrap IntKind.i64 (x_4.fst + (1 : Int))) (x_4.snd.fst + (1 :
  Nat)) (updF AdT I64 x_4.snd.snd (List.getD x.fst.snd.fst (Int.toNat x_4.fst) (Ty.zero FatT)).fst (IntKind.wrap IntKind.i64 (Option.getD (x_4.snd.snd (List.getD x.fst.snd.fst (Int.toNat x_4.fst) (Ty.zero FatT)).fst) (0 :
  Int) + (1 : Int))))) ∧ Wr (List.length x.fst.snd.fst - Int.toNat (IntKind.wrap IntKind.i64 (x_4.fst + (1 : Int))) < List.length x.fst.snd.fst - Int.toNat x_4.fst) ∧ Wr (IntKind.wrap IntKind.i64 (x_4.fst + (1 : Int)) =
  IntKind.wrap IntKind.i64 (x_4.fst + (1 : Int))) ∧ Wr (x.fst.snd.fst = x.fst.snd.fst) ∧ Wr (x.fst.snd.fst = x.fst.snd.fst) ∧ Wr ((↑(List.length x.fst.snd.fst) : Int) = (↑(List.length x.fst.snd.fst) : Int)) ∧ Wr
  (x_4.snd.fst + (1 : Nat) ≤ x_4.snd.fst + (1 : Nat)) ∧ Wr (updF AdT I64 x_4.snd.snd (List.getD x.fst.snd.fst (Int.toNat x_4.fst) (Ty.zero FatT)).fst (IntKind.wrap IntKind.i64 (Option.getD (x_4.snd.snd (List.getD
  x.fst.snd.fst (Int.toNat x_4.fst) (Ty.zero FatT)).fst) (0 : Int) + (1 : Int))) = updF AdT I64 x_4.snd.snd (List.getD x.fst.snd.fst (Int.toNat x_4.fst) (Ty.zero FatT)).fst (IntKind.wrap IntKind.i64 (Option.getD
  (x_4.snd.snd (List.getD x.fst.snd.fst (Int.toNat x_4.fst) (Ty.zero FatT)).fst) (0 : Int) + (1 : Int)))) ∧ Wr ((List.getD x.fst.snd.fst (Int.toNat x_3) (Ty.zero FatT)).fst.fst = (List.getD x.fst.snd.fst (Int.toNat x_3)
  (Ty.zero FatT)).fst.fst) ∧ Wr ((List.getD x.fst.snd.fst (Int.toNat x_3) (Ty.zero FatT)).fst.snd.fst.fst = (List.getD x.fst.snd.fst (Int.toNat x_3) (Ty.zero FatT)).fst.snd.fst.fst) ∧ Wr ((List.getD x.fst.snd.fst
  (Int.toNat x_3) (Ty.zero FatT)).fst.snd.fst.snd.fst = (List.getD x.fst.snd.fst (Int.toNat x_3) (Ty.zero FatT)).fst.snd.fst.snd.fst) ∧ Wr ((List.getD x.fst.snd.fst (Int.toNat x_3) (Ty.zero FatT)).fst.snd.fst.snd.snd.fst
  = (List.getD x.fst.snd.fst (Int.toNat x_3) (Ty.zero FatT)).fst.snd.fst.snd.snd.fst) ∧ Wr ((List.getD x.fst.snd.fst (Int.toNat x_3) (Ty.zero FatT)).fst.snd.fst.snd.snd.snd.fst = (List.getD x.fst.snd.fst (Int.toNat x_3)
  (Ty.zero FatT)).fst.snd.fst.snd.snd.snd.fst) ∧ Wr ((List.getD x.fst.snd.fst (Int.toNat x_3) (Ty.zero FatT)).fst.snd.fst.snd.snd.snd.snd.fst = (List.getD x.fst.snd.fst (Int.toNat x_3) (Ty.zero
  FatT)).fst.snd.fst.snd.snd.snd.snd.fst) ∧ Wr ((List.getD x.fst.snd.fst (Int.toNat x_3) (Ty.zero FatT)).fst.snd.fst.snd.snd.snd.snd.snd.fst = (List.getD x.fst.snd.fst (Int.toNat x_3) (Ty.zero
  FatT)).fst.snd.fst.snd.snd.snd.snd.snd.fst) ∧ Wr ((List.getD x.fst.snd.fst (Int.toNat x_3) (Ty.zero FatT)).fst.snd.fst.snd.snd.snd.snd.snd.snd.fst = (List.getD x.fst.snd.fst (Int.toNat x_3) (Ty.zero
  FatT)).fst.snd.fst.snd.snd.snd.snd.snd.snd.fst) ∧ Wr ((List.getD x.fst.snd.fst (Int.toNat x_3) (Ty.zero FatT)).fst.snd.fst.snd.snd.snd.snd.snd.snd.snd.fst = (List.getD x.fst.snd.fst (Int.toNat x_3) (Ty.zero
  FatT)).fst.snd.fst.snd.snd.snd.snd.snd.snd.snd.fst) ∧ Wr ((List.getD x.fst.snd.fst (Int.toNat x_3) (Ty.zero FatT)).fst.snd.snd.fst = (List.getD x.fst.snd.fst (Int.toNat x_3) (Ty.zero FatT)).fst.snd.snd.fst) ∧ Wr
  ((List.getD x.fst.snd.fst (Int.toNat x_3) (Ty.zero FatT)).snd.fst = (List.getD x.fst.snd.fst (Int.toNat x_3) (Ty.zero FatT)).snd.fst) ∧ Wr (x_2.snd.fst ≤ x_2.snd.fst) ∧ Wr (x_2.snd.snd = x_2.snd.snd) ∧ Wr ((List.getD
  x.fst.fst (Int.toNat x_1) (Ty.zero ZoneT)).fst = (List.getD x.fst.fst (Int.toNat x_1) (Ty.zero ZoneT)).fst) ∧ Wr ((List.getD x.fst.fst (Int.toNat x_1) (Ty.zero ZoneT)).snd.fst = (List.getD x.fst.fst (Int.toNat x_1)
  (Ty.zero ZoneT)).snd.fst) ∧ Wr (x.fst.fst = x.fst.fst) ∧ Wr (x.fst.snd.fst = x.fst.snd.fst) ∧ Wr (x.fst.snd.snd.fst = x.fst.snd.snd.fst) ∧ Wr (x.fst.snd.snd.snd.fst = x.fst.snd.snd.snd.fst))) (bcase (Bool.true &&
  Bool.true && Decidable.decide (x.fst.snd.snd.fst ≥ (0 : Int)) && Decidable.decide (x.fst.snd.snd.fst ≤ (200 : Int))) (bcase (Decidable.decide ((↑(List.length x.fst.snd.snd.snd.fst) : Int) ≥ (0 : Int)) &&
  Decidable.decide ((↑(List.length x.fst.snd.snd.snd.fst) : Int) ≤ (16 : Int))) ((Wr (IdxI (notB dropOk) x.fst.snd.snd.snd.fst (0 : Int)) ∧ Wr ((0 : Int) = (0 : Int)) ∧ Wr (x.fst.snd.snd.snd.fst = x.fst.snd.snd.snd.fst) ∧
  Wr (x.fst.snd.snd.snd.fst = x.fst.snd.snd.snd.fst) ∧ Wr ((↑(List.length x.fst.snd.snd.snd.fst) : Int) = (↑(List.length x.fst.snd.snd.snd.fst) : Int)) ∧ Wr (x_4.snd.fst ≤ x_4.snd.fst) ∧ Wr (x_4.snd.snd = x_4.snd.snd) ∧
  Wr ((List.getD x.fst.snd.fst (Int.toNat x_3) (Ty.zero FatT)).fst.fst = (List.getD x.fst.snd.fst (Int.toNat x_3) (Ty.zero FatT)).fst.fst) ∧ Wr ((List.getD x.fst.snd.fst (Int.toNat x_3) (Ty.zero FatT)).fst.snd.fst.fst =
  (List.getD x.fst.snd.fst (Int.toNat x_3) (Ty.zero FatT)).fst.snd.fst.fst) ∧ Wr ((List.getD x.fst.snd.fst (Int.toNat x_3) (Ty.zero FatT)).fst.snd.fst.snd.fst = (List.getD x.fst.snd.fst (Int.toNat x_3) (Ty.zero
  FatT)).fst.snd.fst.snd.fst) ∧ Wr ((List.getD x.fst.snd.fst (Int.toNat x_3) (Ty.zero FatT)).fst.snd.fst.snd.snd.fst = (List.getD x.fst.snd.fst (Int.toNat x_3) (Ty.zero FatT)).fst.snd.fst.snd.snd.fst) ∧ Wr ((List.getD
  x.fst.snd.fst (Int.toNat x_3) (Ty.zero FatT)).fst.snd.fst.snd.snd.snd.fst = (List.getD x.fst.snd.fst (Int.toNat x_3) (Ty.zero FatT)).fst.snd.fst.snd.snd.snd.fst) ∧ Wr ((List.getD x.fst.snd.fst (Int.toNat x_3) (Ty.zero
  FatT)).fst.snd.fst.snd.snd.snd.snd.fst = (List.getD x.fst.snd.fst (Int.toNat x_3) (Ty.zero FatT)).fst.snd.fst.snd.snd.snd.snd.fst) ∧ Wr ((List.getD x.fst.snd.fst (Int.toNat x_3) (Ty.zero
  FatT)).fst.snd.fst.snd.snd.snd.snd.snd.fst = (List.getD x.fst.snd.fst (Int.toNat x_3) (Ty.zero FatT)).fst.snd.fst.snd.snd.snd.snd.snd.fst) ∧ Wr ((List.getD x.fst.snd.fst (Int.toNat x_3) (Ty.zero
  FatT)).fst.snd.fst.snd.snd.snd.snd.snd.snd.fst = (List.getD x.fst.snd.fst (Int.toNat x_3) (Ty.zero FatT)).fst.snd.fst.snd.snd.snd.snd.snd.snd.fst) ∧ Wr ((List.getD x.fst.snd.fst (Int.toNat x_3) (Ty.zero
  FatT)).fst.snd.fst.snd.snd.snd.snd.snd.snd.snd.fst = (List.getD x.fst.snd.fst (Int.toNat x_3) (Ty.zero FatT)).fst.snd.fst.snd.snd.snd.snd.snd.snd.snd.fst) ∧ Wr ((List.getD x.fst.snd.fst (Int.toNat x_3) (Ty.zero
  FatT)).fst.snd.snd.fst = (List.getD x.fst.snd.fst (Int.toNat x_3) (Ty.zero FatT)).fst.snd.snd.fst) ∧ Wr ((List.getD x.fst.snd.fst (Int.toNat x_3) (Ty.zero FatT)).snd.fst = (List.getD x.fst.snd.fst (Int.toNat x_3)
  (Ty.zero FatT)).snd.fst) ∧ Wr (x_2.snd.fst ≤ x_2.snd.fst) ∧ Wr (x_2.snd.snd = x_2.snd.snd) ∧ Wr ((List.getD x.fst.fst (Int.toNat x_1) (Ty.zero ZoneT)).fst = (List.getD x.fst.fst (Int.toNat x_1) (Ty.zero ZoneT)).fst) ∧
  Wr ((List.getD x.fst.fst (Int.toNat x_1) (Ty.zero ZoneT)).snd.fst = (List.getD x.fst.fst (Int.toNat x_1) (Ty.zero ZoneT)).snd.fst) ∧ Wr (x.fst.fst = x.fst.fst) ∧ Wr (x.fst.snd.fst = x.fst.snd.fst) ∧ Wr
  (x.fst.snd.snd.fst = x.fst.snd.snd.fst) ∧ Wr (x.fst.snd.snd.snd.fst = x.fst.snd.snd.snd.fst)) ∧ ∀ (x_5 : Int), Wr (IdxI (notB dropOk) x.fst.snd.snd.snd.fst x_5) → bcase (Decidable.decide (x_5 < (↑(List.length
  x.fst.snd.snd.snd.fst) : Int))) (Wr ((0 : Int) ≤ x_5) ∧ Wr (x_5 < (↑(List.length x.fst.snd.snd.snd.fst) : Int)) ∧ Wr (Bool.true = Bool.true) ∧ Wr (Bool.true = Bool.true) ∧ bcase (!dropOk (List.getD x.fst.snd.snd.snd.fst
  (Int.toNat x_5) (0 : Int))) (bcase (Bool.true && (Bool.true && !Decidable.decide (x_5 ≥ (0 : Int)))) (((0 : Int), ()) = (check x.fst, ())) (((90 : Int), ()) = (check x.fst, ()))) (Wr (IdxI (notB dropOk)
  x.fst.snd.snd.snd.fst (IntKind.wrap IntKind.i64 (x_5 + (1 : Int)))) ∧ Wr (List.length x.fst.snd.snd.snd.fst - Int.toNat (IntKind.wrap IntKind.i64 (x_5 + (1 : Int))) < List.length x.fst.snd.snd.snd.fst - Int.toNat x_5) ∧
  Wr (IntKind.wrap IntKind.i64 (x_5 + (1 : Int)) = IntKind.wrap IntKind.i64 (x_5 + (1 : Int))) ∧ Wr (x.fst.snd.snd.snd.fst = x.fst.snd.snd.snd.fst) ∧ Wr (x.fst.snd.snd.snd.fst = x.fst.snd.snd.snd.fst) ∧ Wr ((↑(List.length
  x.fst.snd.snd.snd.fst) : Int) = (↑(List.length x.fst.snd.snd.snd.fst) : Int)) ∧ Wr (x_4.snd.fst ≤ x_4.snd.fst) ∧ Wr (x_4.snd.snd = x_4.snd.snd) ∧ Wr ((List.getD x.fst.snd.fst (Int.toNat x_3) (Ty.zero FatT)).fst.fst =
  (List.getD x.fst.snd.fst (Int.toNat x_3) (Ty.zero FatT)).fst.fst) ∧ Wr ((List.getD x.fst.snd.fst (Int.toNat x_3) (Ty.zero FatT)).fst.snd.fst.fst = (List.getD x.fst.snd.fst (Int.toNat x_3) (Ty.zero
  FatT)).fst.snd.fst.fst) ∧ Wr ((List.getD x.fst.snd.fst (Int.toNat x_3) (Ty.zero FatT)).fst.snd.fst.snd.fst = (List.getD x.fst.snd.fst (Int.toNat x_3) (Ty.zero FatT)).fst.snd.fst.snd.fst) ∧ Wr ((List.getD x.fst.snd.fst
  (Int.toNat x_3) (Ty.zero FatT)).fst.snd.fst.snd.snd.fst = (List.getD x.fst.snd.fst (Int.toNat x_3) (Ty.zero FatT)).fst.snd.fst.snd.snd.fst) ∧ Wr ((List.getD x.fst.snd.fst (Int.toNat x_3) (Ty.zero
  FatT)).fst.snd.fst.snd.snd.snd.fst = (List.getD x.fst.snd.fst (Int.toNat x_3) (Ty.zero FatT)).fst.snd.fst.snd.snd.snd.fst) ∧ Wr ((List.getD x.fst.snd.fst (Int.toNat x_3) (Ty.zero FatT)).fst.snd.fst.snd.snd.snd.snd.fst =
  (List.getD x.fst.snd.fst (Int.toNat x_3) (Ty.zero FatT)).fst.snd.fst.snd.snd.snd.snd.fst) ∧ Wr ((List.getD x.fst.snd.fst (Int.toNat x_3) (Ty.zero FatT)).fst.snd.fst.snd.snd.snd.snd.snd.fst = (List.getD x.fst.snd.fst
  (Int.toNat x_3) (Ty.zero FatT)).fst.snd.fst.snd.snd.snd.snd.snd.fst) ∧ Wr ((List.getD x.fst.snd.fst (Int.toNat x_3) (Ty.zero FatT)).fst.snd.fst.snd.snd.snd.snd.snd.snd.fst = (List.getD x.fst.snd.fst (Int.toNat x_3)
  (Ty.zero FatT)).fst.snd.fst.snd.snd.snd.snd.snd.snd.fst) ∧ Wr ((List.getD x.fst.snd.fst (Int.toNat x_3) (Ty.zero FatT)).fst.snd.fst.snd.snd.snd.snd.snd.snd.snd.fst = (List.getD x.fst.snd.fst (Int.toNat x_3) (Ty.zero
  FatT)).fst.snd.fst.snd.snd.snd.snd.snd.snd.snd.fst) ∧ Wr ((List.getD x.fst.snd.fst (Int.toNat x_3) (Ty.zero FatT)).fst.snd.snd.fst = (List.getD x.fst.snd.fst (Int.toNat x_3) (Ty.zero FatT)).fst.snd.snd.fst) ∧ Wr
  ((List.getD x.fst.snd.fst (Int.toNat x_3) (Ty.zero FatT)).snd.fst = (List.getD x.fst.snd.fst (Int.toNat x_3) (Ty.zero FatT)).snd.fst) ∧ Wr (x_2.snd.fst ≤ x_2.snd.fst) ∧ Wr (x_2.snd.snd = x_2.snd.snd) ∧ Wr ((List.getD
  x.fst.fst (Int.toNat x_1) (Ty.zero ZoneT)).fst = (List.getD x.fst.fst (Int.toNat x_1) (Ty.zero ZoneT)).fst) ∧ Wr ((List.getD x.fst.fst (Int.toNat x_1) (Ty.zero ZoneT)).snd.fst = (List.getD x.fst.fst (Int.toNat x_1)
  (Ty.zero ZoneT)).snd.fst) ∧ Wr (x.fst.fst = x.fst.fst) ∧ Wr (x.fst.snd.fst = x.fst.snd.fst) ∧ Wr (x.fst.snd.snd.fst = x.fst.snd.snd.fst) ∧ Wr (x.fst.snd.snd.snd.fst = x.fst.snd.snd.snd.fst))) (((0 : Int), ()) = (check
  x.fst, ()))) (((90 : Int), ()) = (check x.fst, ()))) (((90 : Int), ()) = (check x.fst, ())))) (((90 : Int), ()) = (check x.fst, ()))) (Wr (IdxI (notB fateOk) x.fst.snd.fst (IntKind.wrap IntKind.i64 (x_3 + (1 : Int)))) ∧
  Wr (List.length x.fst.snd.fst - Int.toNat (IntKind.wrap IntKind.i64 (x_3 + (1 : Int))) < List.length x.fst.snd.fst - Int.toNat x_3) ∧ Wr (IntKind.wrap IntKind.i64 (x_3 + (1 : Int)) = IntKind.wrap IntKind.i64 (x_3 + (1 :
  Int))) ∧ Wr (x.fst.snd.fst = x.fst.snd.fst) ∧ Wr (x.fst.snd.fst = x.fst.snd.fst) ∧ Wr ((↑(List.length x.fst.snd.fst) : Int) = (↑(List.length x.fst.snd.fst) : Int)) ∧ Wr (x_2.snd.fst ≤ x_2.snd.fst) ∧ Wr (x_2.snd.snd =
  x_2.snd.snd) ∧ Wr ((List.getD x.fst.fst (Int.toNat x_1) (Ty.zero ZoneT)).fst = (List.getD x.fst.fst (Int.toNat x_1) (Ty.zero ZoneT)).fst) ∧ Wr ((List.getD x.fst.fst (Int.toNat x_1) (Ty.zero ZoneT)).snd.fst = (List.getD
  x.fst.fst (Int.toNat x_1) (Ty.zero ZoneT)).snd.fst) ∧ Wr (x.fst.fst = x.fst.fst) ∧ Wr (x.fst.snd.fst = x.fst.snd.fst) ∧ Wr (x.fst.snd.snd.fst = x.fst.snd.snd.fst) ∧ Wr (x.fst.snd.snd.snd.fst = x.fst.snd.snd.snd.fst)))
  ((Wr (UnlI adOf x.fst.snd.fst (0 : Int) (0 : Nat) fun (x : Int × (Int × Int × Int × Int × Int × Int × Int × Int × Unit) × Int × Unit) => noneO Int) ∧ Wr ((0 : Int) = (0 : Int)) ∧ Wr (x.fst.snd.fst = x.fst.snd.fst) ∧ Wr
  (x.fst.snd.fst = x.fst.snd.fst) ∧ Wr ((↑(List.length x.fst.snd.fst) : Int) = (↑(List.length x.fst.snd.fst) : Int)) ∧ Wr ((0 : Nat) ≤ (0 : Nat)) ∧ Wr ((fun (x : Int × (Int × Int × Int × Int × Int × Int × Int × Int ×
  Unit) × Int × Unit) => noneO Int) = fun (x : Int × (Int × Int × Int × Int × Int × Int × Int × Int × Unit) × Int × Unit) => noneO Int) ∧ Wr (x_2.snd.fst ≤ x_2.snd.fst) ∧ Wr (x_2.snd.snd = x_2.snd.snd) ∧ Wr ((List.getD
  x.fst.fst (Int.toNat x_1) (Ty.zero ZoneT)).fst = (List.getD x.fst.fst (Int.toNat x_1) (Ty.zero ZoneT)).fst) ∧ Wr ((List.getD x.fst.fst (Int.toNat x_1) (Ty.zero ZoneT)).snd.fst = (List.getD x.fst.fst (Int.toNat x_1)
  (Ty.zero ZoneT)).snd.fst) ∧ Wr (x.fst.fst = x.fst.fst) ∧ Wr (x.fst.snd.fst = x.fst.snd.fst) ∧ Wr (x.fst.snd.snd.fst = x.fst.snd.snd.fst) ∧ Wr (x.fst.snd.snd.snd.fst = x.fst.snd.snd.snd.fst)) ∧ ∀ (x_4 : Int × Nat × (Int
  × (Int × Int × Int × Int × Int × Int × Int × Int × Unit) × Int × Unit → Option Int)), Wr (UnlI adOf x.fst.snd.fst x_4.fst x_4.snd.fst x_4.snd.snd) → bcase (Decidable.decide (x_4.fst < (↑(List.length x.fst.snd.fst) :
  Int))) (Wr ((0 : Int) ≤ x_4.fst) ∧ Wr (x_4.fst < (↑(List.length x.fst.snd.fst) : Int)) ∧ Wr (Bool.true = Bool.true) ∧ Wr (x_4.snd.fst < Go.maxLen) ∧ bcase (Decidable.decide (Option.getD (updF AdT I64 x_4.snd.snd
  (List.getD x.fst.snd.fst (Int.toNat x_4.fst) (Ty.zero FatT)).fst (IntKind.wrap IntKind.i64 (Option.getD (x_4.snd.snd (List.getD x.fst.snd.fst (Int.toNat x_4.fst) (Ty.zero FatT)).fst) (0 : Int) + (1 : Int))) (List.getD
  x.fst.snd.fst (Int.toNat x_4.fst) (Ty.zero FatT)).fst) (0 : Int) > (1 : Int))) (((90 : Int), ()) = (check x.fst, ())) (Wr (UnlI adOf x.fst.snd.fst (IntKind.wrap IntKind.i64 (x_4.fst + (1 : Int))) (x_4.snd.fst + (1 :
  Nat)) (updF AdT I64 x_4.snd.snd (List.getD x.fst.snd.fst (Int.toNat x_4.fst) (Ty.zero FatT)).fst (IntKind.wrap IntKind.i64 (Option.getD (x_4.snd.snd (List.getD x.fst.snd.fst (Int.toNat x_4.fst) (Ty.zero FatT)).fst) (0 :
  Int) + (1 : Int))))) ∧ Wr (List.length x.fst.snd.fst - Int.toNat (IntKind.wrap IntKind.i64 (x_4.fst + (1 : Int))) < List.length x.fst.snd.fst - Int.toNat x_4.fst) ∧ Wr (IntKind.wrap IntKind.i64 (x_4.fst + (1 : Int)) =
  IntKind.wrap IntKind.i64 (x_4.fst + (1 : Int))) ∧ Wr (x.fst.snd.fst = x.fst.snd.fst) ∧ Wr (x.fst.snd.fst = x.fst.snd.fst) ∧ Wr ((↑(List.length x.fst.snd.fst) : Int) = (↑(List.length x.fst.snd.fst) : Int)) ∧ Wr
  (x_4.snd.fst + (1 : Nat) ≤ x_4.snd.fst + (1 : Nat)) ∧ Wr (updF AdT I64 x_4.snd.snd (List.getD x.fst.snd.fst (Int.toNat x_4.fst) (Ty.zero FatT)).fst (IntKind.wrap IntKind.i64 (Option.getD (x_4.snd.snd (List.getD
  x.fst.snd.fst (Int.toNat x_4.fst) (Ty.zero FatT)).fst) (0 : Int) + (1 : Int))) = updF AdT I64 x_4.snd.snd (List.getD x.fst.snd.fst (Int.toNat x_4.fst) (Ty.zero FatT)).fst (IntKind.wrap IntKind.i64 (Option.getD
  (x_4.snd.snd (List.getD x.fst.snd.fst (Int.toNat x_4.fst) (Ty.zero FatT)).fst) (0 : Int) + (1 : Int)))) ∧ Wr (x_2.snd.fst ≤ x_2.snd.fst) ∧ Wr (x_2.snd.snd = x_2.snd.snd) ∧ Wr ((List.getD x.fst.fst (Int.toNat x_1)
  (Ty.zero ZoneT)).fst = (List.getD x.fst.fst (Int.toNat x_1) (Ty.zero ZoneT)).fst) ∧ Wr ((List.getD x.fst.fst (Int.toNat x_1) (Ty.zero ZoneT)).snd.fst = (List.getD x.fst.fst (Int.toNat x_1) (Ty.zero ZoneT)).snd.fst) ∧ Wr
  (x.fst.fst = x.fst.fst) ∧ Wr (x.fst.snd.fst = x.fst.snd.fst) ∧ Wr (x.fst.snd.snd.fst = x.fst.snd.snd.fst) ∧ Wr (x.fst.snd.snd.snd.fst = x.fst.snd.snd.snd.fst))) (bcase (Bool.true && Bool.true && Decidable.decide
  (x.fst.snd.snd.fst ≥ (0 : Int)) && Decidable.decide (x.fst.snd.snd.fst ≤ (200 : Int))) (bcase (Decidable.decide ((↑(List.length x.fst.snd.snd.snd.fst) : Int) ≥ (0 : Int)) && Decidable.decide ((↑(List.length
  x.fst.snd.snd.snd.fst) : Int) ≤ (16 : Int))) ((Wr (IdxI (notB dropOk) x.fst.snd.snd.snd.fst (0 : Int)) ∧ Wr ((0 : Int) = (0 : Int)) ∧ Wr (x.fst.snd.snd.snd.fst = x.fst.snd.snd.snd.fst) ∧ Wr (x.fst.snd.snd.snd.fst =
  x.fst.snd.snd.snd.fst) ∧ Wr ((↑(List.length x.fst.snd.snd.snd.fst) : Int) = (↑(List.length x.fst.snd.snd.snd.fst) : Int)) ∧ Wr (x_4.snd.fst ≤ x_4.snd.fst) ∧ Wr (x_4.snd.snd = x_4.snd.snd) ∧ Wr (x_2.snd.fst ≤
  x_2.snd.fst) ∧ Wr (x_2.snd.snd = x_2.snd.snd) ∧ Wr ((List.getD x.fst.fst (Int.toNat x_1) (Ty.zero ZoneT)).fst = (List.getD x.fst.fst (Int.toNat x_1) (Ty.zero ZoneT)).fst) ∧ Wr ((List.getD x.fst.fst (Int.toNat x_1)
  (Ty.zero ZoneT)).snd.fst = (List.getD x.fst.fst (Int.toNat x_1) (Ty.zero ZoneT)).snd.fst) ∧ Wr (x.fst.fst = x.fst.fst) ∧ Wr (x.fst.snd.fst = x.fst.snd.fst) ∧ Wr (x.fst.snd.snd.fst = x.fst.snd.snd.fst) ∧ Wr
  (x.fst.snd.snd.snd.fst = x.fst.snd.snd.snd.fst)) ∧ ∀ (x_5 : Int), Wr (IdxI (notB dropOk) x.fst.snd.snd.snd.fst x_5) → bcase (Decidable.decide (x_5 < (↑(List.length x.fst.snd.snd.snd.fst) : Int))) (Wr ((0 : Int) ≤ x_5) ∧
  Wr (x_5 < (↑(List.length x.fst.snd.snd.snd.fst) : Int)) ∧ Wr (Bool.true = Bool.true) ∧ Wr (Bool.true = Bool.true) ∧ bcase (!dropOk (List.getD x.fst.snd.snd.snd.fst (Int.toNat x_5) (0 : Int))) (bcase (Bool.true &&
  (Bool.true && !Decidable.decide (x_5 ≥ (0 : Int)))) (((0 : Int), ()) = (check x.fst, ())) (((90 : Int), ()) = (check x.fst, ()))) (Wr (IdxI (notB dropOk) x.fst.snd.snd.snd.fst (IntKind.wrap IntKind.i64 (x_5 + (1 :
  Int)))) ∧ Wr (List.length x.fst.snd.snd.snd.fst - Int.toNat (IntKind.wrap IntKind.i64 (x_5 + (1 : Int))) < List.length x.fst.snd.snd.snd.fst - Int.toNat x_5) ∧ Wr (IntKind.wrap IntKind.i64 (x_5 + (1 : Int)) =
  IntKind.wrap IntKind.i64 (x_5 + (1 : Int))) ∧ Wr (x.fst.snd.snd.snd.fst = x.fst.snd.snd.snd.fst) ∧ Wr (x.fst.snd.snd.snd.fst = x.fst.snd.snd.snd.fst) ∧ Wr ((↑(List.length x.fst.snd.snd.snd.fst) : Int) = (↑(List.length
  x.fst.snd.snd.snd.fst) : Int)) ∧ Wr (x_4.snd.fst ≤ x_4.snd.fst) ∧ Wr (x_4.snd.snd = x_4.snd.snd) ∧ Wr (x_2.snd.fst ≤ x_2.snd.fst) ∧ Wr (x_2.snd.snd = x_2.snd.snd) ∧ Wr ((List.getD x.fst.fst (Int.toNat x_1) (Ty.zero
  ZoneT)).fst = (List.getD x.fst.fst (Int.toNat x_1) (Ty.zero ZoneT)).fst) ∧ Wr ((List.getD x.fst.fst (Int.toNat x_1) (Ty.zero ZoneT)).snd.fst = (List.getD x.fst.fst (Int.toNat x_1) (Ty.zero ZoneT)).snd.fst) ∧ Wr
  (x.fst.fst = x.fst.fst) ∧ Wr (x.fst.snd.fst = x.fst.snd.fst) ∧ Wr (x.fst.snd.snd.fst = x.fst.snd.snd.fst) ∧ Wr (x.fst.snd.snd.snd.fst = x.fst.snd.snd.snd.fst))) (((0 : Int), ()) = (check x.fst, ()))) (((90 : Int), ()) =
  (check x.fst, ()))) (((90 : Int), ()) = (check x.fst, ()))))) (((90 : Int), ()) = (check x.fst, ())))) (((90 : Int), ()) = (check x.fst, ()))) (Wr (IdxI (notB zoneOk) x.fst.fst (IntKind.wrap IntKind.i64 (x_1 + (1 :
  Int)))) ∧ Wr (List.length x.fst.fst - Int.toNat (IntKind.wrap IntKind.i64 (x_1 + (1 : Int))) < List.length x.fst.fst - Int.toNat x_1) ∧ Wr (IntKind.wrap IntKind.i64 (x_1 + (1 : Int)) = IntKind.wrap IntKind.i64 (x_1 + (1
  : Int))) ∧ Wr (x.fst.fst = x.fst.fst) ∧ Wr (x.fst.fst = x.fst.fst) ∧ Wr ((↑(List.length x.fst.fst) : Int) = (↑(List.length x.fst.fst) : Int)) ∧ Wr (x.fst.fst = x.fst.fst) ∧ Wr (x.fst.snd.fst = x.fst.snd.fst) ∧ Wr
  (x.fst.snd.snd.fst = x.fst.snd.snd.fst) ∧ Wr (x.fst.snd.snd.snd.fst = x.fst.snd.snd.snd.fst))) ((Wr (UnlI nameOf x.fst.fst (0 : Int) (0 : Nat) fun (x : ByteArray) => noneO Int) ∧ Wr ((0 : Int) = (0 : Int)) ∧ Wr
  (x.fst.fst = x.fst.fst) ∧ Wr (x.fst.fst = x.fst.fst) ∧ Wr ((↑(List.length x.fst.fst) : Int) = (↑(List.length x.fst.fst) : Int)) ∧ Wr ((0 : Nat) ≤ (0 : Nat)) ∧ Wr ((fun (x : ByteArray) => noneO Int) = fun (x : ByteArray)
  => noneO Int) ∧ Wr (x.fst.fst = x.fst.fst) ∧ Wr (x.fst.snd.fst = x.fst.snd.fst) ∧ Wr (x.fst.snd.snd.fst = x.fst.snd.snd.fst) ∧ Wr (x.fst.snd.snd.snd.fst = x.fst.snd.snd.snd.fst)) ∧ ∀ (x_2 : Int × Nat × (ByteArray →
  Option Int)), Wr (UnlI nameOf x.fst.fst x_2.fst x_2.snd.fst x_2.snd.snd) → bcase (Decidable.decide (x_2.fst < (↑(List.length x.fst.fst) : Int))) (Wr ((0 : Int) ≤ x_2.fst) ∧ Wr (x_2.fst < (↑(List.length x.fst.fst) :
  Int)) ∧ Wr (Bool.true = Bool.true) ∧ Wr (x_2.snd.fst < Go.maxLen) ∧ bcase (Decidable.decide (Option.getD (updF Ty.str I64 x_2.snd.snd (List.getD x.fst.fst (Int.toNat x_2.fst) (Ty.zero ZoneT)).fst (IntKind.wrap
  IntKind.i64 (Option.getD (x_2.snd.snd (List.getD x.fst.fst (Int.toNat x_2.fst) (Ty.zero ZoneT)).fst) (0 : Int) + (1 : Int))) (List.getD x.fst.fst (Int.toNat x_2.fst) (Ty.zero ZoneT)).fst) (0 : Int) > (1 : Int))) (((90 :
  Int), ()) = (check x.fst, ())) (Wr (UnlI nameOf x.fst.fst (IntKind.wrap IntKind.i64 (x_2.fst + (1 : Int))) (x_2.snd.fst + (1 : Nat)) (updF Ty.str I64 x_2.snd.snd (List.getD x.fst.fst (Int.toNat x_2.fst) (Ty.zero
  ZoneT)).fst (IntKind.wrap IntKind.i64 (Option.getD (x_2.snd.snd (List.getD x.fst.fst (Int.toNat x_2.fst) (Ty.zero ZoneT)).fst) (0 : Int) + (1 : Int))))) ∧ Wr (List.length x.fst.fst - Int.toNat (IntKind.wrap IntKind.i64
  (x_2.fst + (1 : Int))) < List.length x.fst.fst - Int.toNat x_2.fst) ∧ Wr (IntKind.wrap IntKind.i64 (x_2.fst + (1 : Int)) = IntKind.wrap IntKind.i64 (x_2.fst + (1 : Int))) ∧ Wr (x.fst.fst = x.fst.fst) ∧ Wr (x.fst.fst =
  x.fst.fst) ∧ Wr ((↑(List.length x.fst.fst) : Int) = (↑(List.length x.fst.fst) : Int)) ∧ Wr (x_2.snd.fst + (1 : Nat) ≤ x_2.snd.fst + (1 : Nat)) ∧ Wr (updF Ty.str I64 x_2.snd.snd (List.getD x.fst.fst (Int.toNat x_2.fst)
  (Ty.zero ZoneT)).fst (IntKind.wrap IntKind.i64 (Option.getD (x_2.snd.snd (List.getD x.fst.fst (Int.toNat x_2.fst) (Ty.zero ZoneT)).fst) (0 : Int) + (1 : Int))) = updF Ty.str I64 x_2.snd.snd (List.getD x.fst.fst
  (Int.toNat x_2.fst) (Ty.zero ZoneT)).fst (IntKind.wrap IntKind.i64 (Option.getD (x_2.snd.snd (List.getD x.fst.fst (Int.toNat x_2.fst) (Ty.zero ZoneT)).fst) (0 : Int) + (1 : Int)))) ∧ Wr (x.fst.fst = x.fst.fst) ∧ Wr
  (x.fst.snd.fst = x.fst.snd.fst) ∧ Wr (x.fst.snd.snd.fst = x.fst.snd.snd.fst) ∧ Wr (x.fst.snd.snd.snd.fst = x.fst.snd.snd.snd.fst))) (bcase (Decidable.decide ((↑(List.length x.fst.snd.fst) : Int) ≥ (0 : Int)) &&
  Decidable.decide ((↑(List.length x.fst.snd.fst) : Int) ≤ (32 : Int))) ((Wr (IdxI (notB fateOk) x.fst.snd.fst (0 : Int)) ∧ Wr ((0 : Int) = (0 : Int)) ∧ Wr (x.fst.snd.fst = x.fst.snd.fst) ∧ Wr (x.fst.snd.fst =
  x.fst.snd.fst) ∧ Wr ((↑(List.length x.fst.snd.fst) : Int) = (↑(List.length x.fst.snd.fst) : Int)) ∧ Wr (x_2.snd.fst ≤ x_2.snd.fst) ∧ Wr (x_2.snd.snd = x_2.snd.snd) ∧ Wr (x.fst.fst = x.fst.fst) ∧ Wr (x.fst.snd.fst =
  x.fst.snd.fst) ∧ Wr (x.fst.snd.snd.fst = x.fst.snd.snd.fst) ∧ Wr (x.fst.snd.snd.snd.fst = x.fst.snd.snd.snd.fst)) ∧ ∀ (x_3 : Int), Wr (IdxI (notB fateOk) x.fst.snd.fst x_3) → bcase (Decidable.decide (x_3 <
  (↑(List.length x.fst.snd.fst) : Int))) (Wr ((0 : Int) ≤ x_3) ∧ Wr (x_3 < (↑(List.length x.fst.snd.fst) : Int)) ∧ Wr (Bool.true = Bool.true) ∧ Wr (Bool.true = Bool.true) ∧ bcase (!fateOk (List.getD x.fst.snd.fst
  (Int.toNat x_3) (Ty.zero FatT))) (bcase (Bool.true && (Bool.true && !Decidable.decide (x_3 ≥ (0 : Int)))) ((Wr (UnlI adOf x.fst.snd.fst (0 : Int) (0 : Nat) fun (x : Int × (Int × Int × Int × Int × Int × Int × Int × Int ×
  Unit) × Int × Unit) => noneO Int) ∧ Wr ((0 : Int) = (0 : Int)) ∧ Wr (x.fst.snd.fst = x.fst.snd.fst) ∧ Wr (x.fst.snd.fst = x.fst.snd.fst) ∧ Wr ((↑(List.length x.fst.snd.fst) : Int) = (↑(List.length x.fst.snd.fst) : Int))
  ∧ Wr ((0 : Nat) ≤ (0 : Nat)) ∧ Wr ((fun (x : Int × (Int × Int × Int × Int × Int × Int × Int × Int × Unit) × Int × Unit) => noneO Int) = fun (x : Int × (Int × Int × Int × Int × Int × Int × Int × Int × Unit) × Int × Unit)
  => noneO Int) ∧ Wr ((List.getD x.fst.snd.fst (Int.toNat x_3) (Ty.zero FatT)).fst.fst = (List.getD x.fst.snd.fst (Int.toNat x_3) (Ty.zero FatT)).fst.fst) ∧ Wr ((List.getD x.fst.snd.fst (Int.toNat x_3) (Ty.zero
  FatT)).fst.snd.fst.fst = (List.getD x.fst.snd.fst (Int.toNat x_3) (Ty.zero FatT)).fst.snd.fst.fst) ∧ Wr ((List.getD x.fst.snd.fst (Int.toNat x_3) (Ty.zero FatT)).fst.snd.fst.snd.fst = (List.getD x.fst.snd.fst (Int.toNat
  x_3) (Ty.zero FatT)).fst.snd.fst.snd.fst) ∧ Wr ((List.getD x.fst.snd.fst (Int.toNat x_3) (Ty.zero FatT)).fst.snd.fst.snd.snd.fst = (List.getD x.fst.snd.fst (Int.toNat x_3) (Ty.zero FatT)).fst.snd.fst.snd.snd.fst) ∧ Wr
  ((List.getD x.fst.snd.fst (Int.toNat x_3) (Ty.zero FatT)).fst.snd.fst.snd.snd.snd.fst = (List.getD x.fst.snd.fst (Int.toNat x_3) (Ty.zero FatT)).fst.snd.fst.snd.snd.snd.fst) ∧ Wr ((List.getD x.fst.snd.fst (Int.toNat
  x_3) (Ty.zero FatT)).fst.snd.fst.snd.snd.snd.snd.fst = (List.getD x.fst.snd.fst (Int.toNat x_3) (Ty.zero FatT)).fst.snd.fst.snd.snd.snd.snd.fst) ∧ Wr ((List.getD x.fst.snd.fst (Int.toNat x_3) (Ty.zero
  FatT)).fst.snd.fst.snd.snd.snd.snd.snd.fst = (List.getD x.fst.snd.fst (Int.toNat x_3) (Ty.zero FatT)).fst.snd.fst.snd.snd.snd.snd.snd.fst) ∧ Wr ((List.getD x.fst.snd.fst (Int.toNat x_3) (Ty.zero
  FatT)).fst.snd.fst.snd.snd.snd.snd.snd.snd.fst = (List.getD x.fst.snd.fst (Int.toNat x_3) (Ty.zero FatT)).fst.snd.fst.snd.snd.snd.snd.snd.snd.fst) ∧ Wr ((List.getD x.fst.snd.fst (Int.toNat x_3) (Ty.zero
  FatT)).fst.snd.fst.snd.snd.snd.snd.snd.snd.snd.fst = (List.getD x.fst.snd.fst (Int.toNat x_3) (Ty.zero FatT)).fst.snd.fst.snd.snd.snd.snd.snd.snd.snd.fst) ∧ Wr ((List.getD x.fst.snd.fst (Int.toNat x_3) (Ty.zero
  FatT)).fst.snd.snd.fst = (List.getD x.fst.snd.fst (Int.toNat x_3) (Ty.zero FatT)).fst.snd.snd.fst) ∧ Wr ((List.getD x.fst.snd.fst (Int.toNat x_3) (Ty.zero FatT)).snd.fst = (List.getD x.fst.snd.fst (Int.toNat x_3)
  (Ty.zero FatT)).snd.fst) ∧ Wr (x_2.snd.fst ≤ x_2.snd.fst) ∧ Wr (x_2.snd.snd = x_2.snd.snd) ∧ Wr (x.fst.fst = x.fst.fst) ∧ Wr (x.fst.snd.fst = x.fst.snd.fst) ∧ Wr (x.fst.snd.snd.fst = x.fst.snd.snd.fst) ∧ Wr
  (x.fst.snd.snd.snd.fst = x.fst.snd.snd.snd.fst)) ∧ ∀ (x_4 : Int × Nat × (Int × (Int × Int × Int × Int × Int × Int × Int × Int × Unit) × Int × Unit → Option Int)), Wr (UnlI adOf x.fst.snd.fst x_4.fst x_4.snd.fst
  x_4.snd.snd) → bcase (Decidable.decide (x_4.fst < (↑(List.length x.fst.snd.fst) : Int))) (Wr ((0 : Int) ≤ x_4.fst) ∧ Wr (x_4.fst < (↑(List.length x.fst.snd.fst) : Int)) ∧ Wr (Bool.true = Bool.true) ∧ Wr (x_4.snd.fst <
  Go.maxLen) ∧ bcase (Decidable.decide (Option.getD (updF AdT I64 x_4.snd.snd (List.getD x.fst.snd.fst (Int.toNat x_4.fst) (Ty.zero FatT)).fst (IntKind.wrap IntKind.i64 (Option.getD (x_4.snd.snd (List.getD x.fst.snd.fst
  (Int.toNat x_4.fst) (Ty.zero FatT)).fst) (0 : Int) + (1 : Int))) (List.getD x.fst.snd.fst (Int.toNat x_4.fst) (Ty.zero FatT)).fst) (0 : Int) > (1 : Int))) (((90 : Int), ()) = (check x.fst, ())) (Wr (UnlI adOf
  x.fst.snd.fst (IntKind.wrap IntKind.i64 (x_4.fst + (1 : Int))) (x_4.snd.fst + (1 : Nat)) (updF AdT I64 x_4.snd.snd (List.getD x.fst.snd.fst (Int.toNat x_4.fst) (Ty.zero FatT)).fst (IntKind.wrap IntKind.i64 (Option.getD
  (x_4.snd.snd (List.getD x.fst.snd.fst (Int.toNat x_4.fst) (Ty.zero FatT)).fst) (0 : Int) + (1 : Int))))) ∧ Wr (List.length x.fst.snd.fst - Int.toNat (IntKind.wrap IntKind.i64 (x_4.fst + (1 : Int))) < List.length
  x.fst.snd.fst - Int.toNat x_4.fst) ∧ Wr (IntKind.wrap IntKind.i64 (x_4.fst + (1 : Int)) = IntKind.wrap IntKind.i64 (x_4.fst + (1 : Int))) ∧ Wr (x.fst.snd.fst = x.fst.snd.fst) ∧ Wr (x.fst.snd.fst = x.fst.snd.fst) ∧ Wr
  ((↑(List.length x.fst.snd.fst) : Int) = (↑(List.length x.fst.snd.fst) : Int)) ∧ Wr (x_4.snd.fst + (1 : Nat) ≤ x_4.snd.fst + (1 : Nat)) ∧ Wr (updF AdT I64 x_4.snd.snd (List.getD x.fst.snd.fst (Int.toNat x_4.fst) (Ty.zero
  FatT)).fst (IntKind.wrap IntKind.i64 (Option.getD (x_4.snd.snd (List.getD x.fst.snd.fst (Int.toNat x_4.fst) (Ty.zero FatT)).fst) (0 : Int) + (1 : Int))) = updF AdT I64 x_4.snd.snd (List.getD x.fst.snd.fst (Int.toNat
  x_4.fst) (Ty.zero FatT)).fst (IntKind.wrap IntKind.i64 (Option.getD (x_4.snd.snd (List.getD x.fst.snd.fst (Int.toNat x_4.fst) (Ty.zero FatT)).fst) (0 : Int) + (1 : Int)))) ∧ Wr ((List.getD x.fst.snd.fst (Int.toNat x_3)
  (Ty.zero FatT)).fst.fst = (List.getD x.fst.snd.fst (Int.toNat x_3) (Ty.zero FatT)).fst.fst) ∧ Wr ((List.getD x.fst.snd.fst (Int.toNat x_3) (Ty.zero FatT)).fst.snd.fst.fst = (List.getD x.fst.snd.fst (Int.toNat x_3)
  (Ty.zero FatT)).fst.snd.fst.fst) ∧ Wr ((List.getD x.fst.snd.fst (Int.toNat x_3) (Ty.zero FatT)).fst.snd.fst.snd.fst = (List.getD x.fst.snd.fst (Int.toNat x_3) (Ty.zero FatT)).fst.snd.fst.snd.fst) ∧ Wr ((List.getD
  x.fst.snd.fst (Int.toNat x_3) (Ty.zero FatT)).fst.snd.fst.snd.snd.fst = (List.getD x.fst.snd.fst (Int.toNat x_3) (Ty.zero FatT)).fst.snd.fst.snd.snd.fst) ∧ Wr ((List.getD x.fst.snd.fst (Int.toNat x_3) (Ty.zero
  FatT)).fst.snd.fst.snd.snd.snd.fst = (List.getD x.fst.snd.fst (Int.toNat x_3) (Ty.zero FatT)).fst.snd.fst.snd.snd.snd.fst) ∧ Wr ((List.getD x.fst.snd.fst (Int.toNat x_3) (Ty.zero FatT)).fst.snd.fst.snd.snd.snd.snd.fst =
  (List.getD x.fst.snd.fst (Int.toNat x_3) (Ty.zero FatT)).fst.snd.fst.snd.snd.snd.snd.fst) ∧ Wr ((List.getD x.fst.snd.fst (Int.toNat x_3) (Ty.zero FatT)).fst.snd.fst.snd.snd.snd.snd.snd.fst = (List.getD x.fst.snd.fst
  (Int.toNat x_3) (Ty.zero FatT)).fst.snd.fst.snd.snd.snd.snd.snd.fst) ∧ Wr ((List.getD x.fst.snd.fst (Int.toNat x_3) (Ty.zero FatT)).fst.snd.fst.snd.snd.snd.snd.snd.snd.fst = (List.getD x.fst.snd.fst (Int.toNat x_3)
  (Ty.zero FatT)).fst.snd.fst.snd.snd.snd.snd.snd.snd.fst) ∧ Wr ((List.getD x.fst.snd.fst (Int.toNat x_3) (Ty.zero FatT)).fst.snd.fst.snd.snd.snd.snd.snd.snd.snd.fst = (List.getD x.fst.snd.fst (Int.toNat x_3) (Ty.zero
  FatT)).fst.snd.fst.snd.snd.snd.snd.snd.snd.snd.fst) ∧ Wr ((List.getD x.fst.snd.fst (Int.toNat x_3) (Ty.zero FatT)).fst.snd.snd.fst = (List.getD x.fst.snd.fst (Int.toNat x_3) (Ty.zero FatT)).fst.snd.snd.fst) ∧ Wr
  ((List.getD x.fst.snd.fst (Int.toNat x_3) (Ty.zero FatT)).snd.fst = (List.getD x.fst.snd.fst (Int.toNat x_3) (Ty.zero FatT)).snd.fst) ∧ Wr (x_2.snd.fst ≤ x_2.snd.fst) ∧ Wr (x_2.snd.snd = x_2.snd.snd) ∧ Wr (x.fst.fst =
  x.fst.fst) ∧ Wr (x.fst.snd.fst = x.fst.snd.fst) ∧ Wr (x.fst.snd.snd.fst = x.fst.snd.snd.fst) ∧ Wr (x.fst.snd.snd.snd.fst = x.fst.snd.snd.snd.fst))) (bcase (Bool.true && Bool.true && Decidable.decide (x.fst.snd.snd.fst ≥
  (0 : Int)) && Decidable.decide (x.fst.snd.snd.fst ≤ (200 : Int))) (bcase (Decidable.decide ((↑(List.length x.fst.snd.snd.snd.fst) : Int) ≥ (0 : Int)) && Decidable.decide ((↑(List.length x.fst.snd.snd.snd.fst) : Int) ≤
  (16 : Int))) ((Wr (IdxI (notB dropOk) x.fst.snd.snd.snd.fst (0 : Int)) ∧ Wr ((0 : Int) = (0 : Int)) ∧ Wr (x.fst.snd.snd.snd.fst = x.fst.snd.snd.snd.fst) ∧ Wr (x.fst.snd.snd.snd.fst = x.fst.snd.snd.snd.fst) ∧ Wr
  ((↑(List.length x.fst.snd.snd.snd.fst) : Int) = (↑(List.length x.fst.snd.snd.snd.fst) : Int)) ∧ Wr (x_4.snd.fst ≤ x_4.snd.fst) ∧ Wr (x_4.snd.snd = x_4.snd.snd) ∧ Wr ((List.getD x.fst.snd.fst (Int.toNat x_3) (Ty.zero
  FatT)).fst.fst = (List.getD x.fst.snd.fst (Int.toNat x_3) (Ty.zero FatT)).fst.fst) ∧ Wr ((List.getD x.fst.snd.fst (Int.toNat x_3) (Ty.zero FatT)).fst.snd.fst.fst = (List.getD x.fst.snd.fst (Int.toNat x_3) (Ty.zero
  FatT)).fst.snd.fst.fst) ∧ Wr ((List.getD x.fst.snd.fst (Int.toNat x_3) (Ty.zero FatT)).fst.snd.fst.snd.fst = (List.getD x.fst.snd.fst (Int.toNat x_3) (Ty.zero FatT)).fst.snd.fst.snd.fst) ∧ Wr ((List.getD x.fst.snd.fst
  (Int.toNat x_3) (Ty.zero FatT)).fst.snd.fst.snd.snd.fst = (List.getD x.fst.snd.fst (Int.toNat x_3) (Ty.zero FatT)).fst.snd.fst.snd.snd.fst) ∧ Wr ((List.getD x.fst.snd.fst (Int.toNat x_3) (Ty.zero
  FatT)).fst.snd.fst.snd.snd.snd.fst = (List.getD x.fst.snd.fst (Int.toNat x_3) (Ty.zero FatT)).fst.snd.fst.snd.snd.snd.fst) ∧ Wr ((List.getD x.fst.snd.fst (Int.toNat x_3) (Ty.zero FatT)).fst.snd.fst.snd.snd.snd.snd.fst =
  (List.getD x.fst.snd.fst (Int.toNat x_3) (Ty.zero FatT)).fst.snd.fst.snd.snd.snd.snd.fst) ∧ Wr ((List.getD x.fst.snd.fst (Int.toNat x_3) (Ty.zero FatT)).fst.snd.fst.snd.snd.snd.snd.snd.fst = (List.getD x.fst.snd.fst
  (Int.toNat x_3) (Ty.zero FatT)).fst.snd.fst.snd.snd.snd.snd.snd.fst) ∧ Wr ((List.getD x.fst.snd.fst (Int.toNat x_3) (Ty.zero FatT)).fst.snd.fst.snd.snd.snd.snd.snd.snd.fst = (List.getD x.fst.snd.fst (Int.toNat x_3)
  (Ty.zero FatT)).fst.snd.fst.snd.snd.snd.snd.snd.snd.fst) ∧ Wr ((List.getD x.fst.snd.fst (Int.toNat x_3) (Ty.zero FatT)).fst.snd.fst.snd.snd.snd.snd.snd.snd.snd.fst = (List.getD x.fst.snd.fst (Int.toNat x_3) (Ty.zero
  FatT)).fst.snd.fst.snd.snd.snd.snd.snd.snd.snd.fst) ∧ Wr ((List.getD x.fst.snd.fst (Int.toNat x_3) (Ty.zero FatT)).fst.snd.snd.fst = (List.getD x.fst.snd.fst (Int.toNat x_3) (Ty.zero FatT)).fst.snd.snd.fst) ∧ Wr
  ((List.getD x.fst.snd.fst (Int.toNat x_3) (Ty.zero FatT)).snd.fst = (List.getD x.fst.snd.fst (Int.toNat x_3) (Ty.zero FatT)).snd.fst) ∧ Wr (x_2.snd.fst ≤ x_2.snd.fst) ∧ Wr (x_2.snd.snd = x_2.snd.snd) ∧ Wr (x.fst.fst =
  x.fst.fst) ∧ Wr (x.fst.snd.fst = x.fst.snd.fst) ∧ Wr (x.fst.snd.snd.fst = x.fst.snd.snd.fst) ∧ Wr (x.fst.snd.snd.snd.fst = x.fst.snd.snd.snd.fst)) ∧ ∀ (x_5 : Int), Wr (IdxI (notB dropOk) x.fst.snd.snd.snd.fst x_5) →
  bcase (Decidable.decide (x_5 < (↑(List.length x.fst.snd.snd.snd.fst) : Int))) (Wr ((0 : Int) ≤ x_5) ∧ Wr (x_5 < (↑(List.length x.fst.snd.snd.snd.fst) : Int)) ∧ Wr (Bool.true = Bool.true) ∧ Wr (Bool.true = Bool.true) ∧
  bcase (!dropOk (List.getD x.fst.snd.snd.snd.fst (Int.toNat x_5) (0 : Int))) (bcase (Bool.true && (Bool.true && !Decidable.decide (x_5 ≥ (0 : Int)))) (((0 : Int), ()) = (check x.fst, ())) (((90 : Int), ()) = (check
  x.fst, ()))) (Wr (IdxI (notB dropOk) x.fst.snd.snd.snd.fst (IntKind.wrap IntKind.i64 (x_5 + (1 : Int)))) ∧ Wr (List.length x.fst.snd.snd.snd.fst - Int.toNat (IntKind.wrap IntKind.i64 (x_5 + (1 : Int))) < List.length
  x.fst.snd.snd.snd.fst - Int.toNat x_5) ∧ Wr (IntKind.wrap IntKind.i64 (x_5 + (1 : Int)) = IntKind.wrap IntKind.i64 (x_5 + (1 : Int))) ∧ Wr (x.fst.snd.snd.snd.fst = x.fst.snd.snd.snd.fst) ∧ Wr (x.fst.snd.snd.snd.fst =
  x.fst.snd.snd.snd.fst) ∧ Wr ((↑(List.length x.fst.snd.snd.snd.fst) : Int) = (↑(List.length x.fst.snd.snd.snd.fst) : Int)) ∧ Wr (x_4.snd.fst ≤ x_4.snd.fst) ∧ Wr (x_4.snd.snd = x_4.snd.snd) ∧ Wr ((List.getD x.fst.snd.fst
  (Int.toNat x_3) (Ty.zero FatT)).fst.fst = (List.getD x.fst.snd.fst (Int.toNat x_3) (Ty.zero FatT)).fst.fst) ∧ Wr ((List.getD x.fst.snd.fst (Int.toNat x_3) (Ty.zero FatT)).fst.snd.fst.fst = (List.getD x.fst.snd.fst
  (Int.toNat x_3) (Ty.zero FatT)).fst.snd.fst.fst) ∧ Wr ((List.getD x.fst.snd.fst (Int.toNat x_3) (Ty.zero FatT)).fst.snd.fst.snd.fst = (List.getD x.fst.snd.fst (Int.toNat x_3) (Ty.zero FatT)).fst.snd.fst.snd.fst) ∧ Wr
  ((List.getD x.fst.snd.fst (Int.toNat x_3) (Ty.zero FatT)).fst.snd.fst.snd.snd.fst = (List.getD x.fst.snd.fst (Int.toNat x_3) (Ty.zero FatT)).fst.snd.fst.snd.snd.fst) ∧ Wr ((List.getD x.fst.snd.fst (Int.toNat x_3)
  (Ty.zero FatT)).fst.snd.fst.snd.snd.snd.fst = (List.getD x.fst.snd.fst (Int.toNat x_3) (Ty.zero FatT)).fst.snd.fst.snd.snd.snd.fst) ∧ Wr ((List.getD x.fst.snd.fst (Int.toNat x_3) (Ty.zero
  FatT)).fst.snd.fst.snd.snd.snd.snd.fst = (List.getD x.fst.snd.fst (Int.toNat x_3) (Ty.zero FatT)).fst.snd.fst.snd.snd.snd.snd.fst) ∧ Wr ((List.getD x.fst.snd.fst (Int.toNat x_3) (Ty.zero
  FatT)).fst.snd.fst.snd.snd.snd.snd.snd.fst = (List.getD x.fst.snd.fst (Int.toNat x_3) (Ty.zero FatT)).fst.snd.fst.snd.snd.snd.snd.snd.fst) ∧ Wr ((List.getD x.fst.snd.fst (Int.toNat x_3) (Ty.zero
  FatT)).fst.snd.fst.snd.snd.snd.snd.snd.snd.fst = (List.getD x.fst.snd.fst (Int.toNat x_3) (Ty.zero FatT)).fst.snd.fst.snd.snd.snd.snd.snd.snd.fst) ∧ Wr ((List.getD x.fst.snd.fst (Int.toNat x_3) (Ty.zero
  FatT)).fst.snd.fst.snd.snd.snd.snd.snd.snd.snd.fst = (List.getD x.fst.snd.fst (Int.toNat x_3) (Ty.zero FatT)).fst.snd.fst.snd.snd.snd.snd.snd.snd.snd.fst) ∧ Wr ((List.getD x.fst.snd.fst (Int.toNat x_3) (Ty.zero
  FatT)).fst.snd.snd.fst = (List.getD x.fst.snd.fst (Int.toNat x_3) (Ty.zero FatT)).fst.snd.snd.fst) ∧ Wr ((List.getD x.fst.snd.fst (Int.toNat x_3) (Ty.zero FatT)).snd.fst = (List.getD x.fst.snd.fst (Int.toNat x_3)
  (Ty.zero FatT)).snd.fst) ∧ Wr (x_2.snd.fst ≤ x_2.snd.fst) ∧ Wr (x_2.snd.snd = x_2.snd.snd) ∧ Wr (x.fst.fst = x.fst.fst) ∧ Wr (x.fst.snd.fst = x.fst.snd.fst) ∧ Wr (x.fst.snd.snd.fst = x.fst.snd.snd.fst) ∧ Wr
  (x.fst.snd.snd.snd.fst = x.fst.snd.snd.snd.fst))) (((0 : Int), ()) = (check x.fst, ()))) (((90 : Int), ()) = (check x.fst, ()))) (((90 : Int), ()) = (check x.fst, ())))) (((90 : Int), ()) = (check x.fst, ()))) (Wr (IdxI
  (notB fateOk) x.fst.snd.fst (IntKind.wrap IntKind.i64 (x_3 + (1 : Int)))) ∧ Wr (List.length x.fst.snd.fst - Int.toNat (IntKind.wrap IntKind.i64 (x_3 + (1 : Int))) < List.length x.fst.snd.fst - Int.toNat x_3) ∧ Wr
  (IntKind.wrap IntKind.i64 (x_3 + (1 : Int)) = IntKind.wrap IntKind.i64 (x_3 + (1 : Int))) ∧ Wr (x.fst.snd.fst = x.fst.snd.fst) ∧ Wr (x.fst.snd.fst = x.fst.snd.fst) ∧ Wr ((↑(List.length x.fst.snd.fst) : Int) =
  (↑(List.length x.fst.snd.fst) : Int)) ∧ Wr (x_2.snd.fst ≤ x_2.snd.fst) ∧ Wr (x_2.snd.snd = x_2.snd.snd) ∧ Wr (x.fst.fst = x.fst.fst) ∧ Wr (x.fst.snd.fst = x.fst.snd.fst) ∧ Wr (x.fst.snd.snd.fst = x.fst.snd.snd.fst) ∧ Wr
  (x.fst.snd.snd.snd.fst = x.fst.snd.snd.snd.fst))) ((Wr (UnlI adOf x.fst.snd.fst (0 : Int) (0 : Nat) fun (x : Int × (Int × Int × Int × Int × Int × Int × Int × Int × Unit) × Int × Unit) => noneO Int) ∧ Wr ((0 : Int) = (0
  : Int)) ∧ Wr (x.fst.snd.fst = x.fst.snd.fst) ∧ Wr (x.fst.snd.fst = x.fst.snd.fst) ∧ Wr ((↑(List.length x.fst.snd.fst) : Int) = (↑(List.length x.fst.snd.fst) : Int)) ∧ Wr ((0 : Nat) ≤ (0 : Nat)) ∧ Wr ((fun (x : Int ×
  (Int × Int × Int × Int × Int × Int × Int × Int × Unit) × Int × Unit) => noneO Int) = fun (x : Int × (Int × Int × Int × Int × Int × Int × Int × Int × Unit) × Int × Unit) => noneO Int) ∧ Wr (x_2.snd.fst ≤ x_2.snd.fst) ∧
  Wr (x_2.snd.snd = x_2.snd.snd) ∧ Wr (x.fst.fst = x.fst.fst) ∧ Wr (x.fst.snd.fst = x.fst.snd.fst) ∧ Wr (x.fst.snd.snd.fst = x.fst.snd.snd.fst) ∧ Wr (x.fst.snd.snd.snd.fst = x.fst.snd.snd.snd.fst)) ∧ ∀ (x_4 : Int × Nat ×
  (Int × (Int × Int × Int × Int × Int × Int × Int × Int × Unit) × Int × Unit → Option Int)), Wr (UnlI adOf x.fst.snd.fst x_4.fst x_4.snd.fst x_4.snd.snd) → bcase (Decidable.decide (x_4.fst < (↑(List.length x.fst.snd.fst)
  : Int))) (Wr ((0 : Int) ≤ x_4.fst) ∧ Wr (x_4.fst < (↑(List.length x.fst.snd.fst) : Int)) ∧ Wr (Bool.true = Bool.true) ∧ Wr (x_4.snd.fst < Go.maxLen) ∧ bcase (Decidable.decide (Option.getD (updF AdT I64 x_4.snd.snd
  (List.getD x.fst.snd.fst (Int.toNat x_4.fst) (Ty.zero FatT)).fst (IntKind.wrap IntKind.i64 (Option.getD (x_4.snd.snd (List.getD x.fst.snd.fst (Int.toNat x_4.fst) (Ty.zero FatT)).fst) (0 : Int) + (1 : Int))) (List.getD
  x.fst.snd.fst (Int.toNat x_4.fst) (Ty.zero FatT)).fst) (0 : Int) > (1 : Int))) (((90 : Int), ()) = (check x.fst, ())) (Wr (UnlI adOf x.fst.snd.fst (IntKind.wrap IntKind.i64 (x_4.fst + (1 : Int))) (x_4.snd.fst + (1 :
  Nat)) (updF AdT I64 x_4.snd.snd (List.getD x.fst.snd.fst (Int.toNat x_4.fst) (Ty.zero FatT)).fst (IntKind.wrap IntKind.i64 (Option.getD (x_4.snd.snd (List.getD x.fst.snd.fst (Int.toNat x_4.fst) (Ty.zero FatT)).fst) (0 :
  Int) + (1 : Int))))) ∧ Wr (List.length x.fst.snd.fst - Int.toNat (IntKind.wrap IntKind.i64 (x_4.fst + (1 : Int))) < List.length x.fst.snd.fst - Int.toNat x_4.fst) ∧ Wr (IntKind.wrap IntKind.i64 (x_4.fst + (1 : Int)) =
  IntKind.wrap IntKind.i64 (x_4.fst + (1 : Int))) ∧ Wr (x.fst.snd.fst = x.fst.snd.fst) ∧ Wr (x.fst.snd.fst = x.fst.snd.fst) ∧ Wr ((↑(List.length x.fst.snd.fst) : Int) = (↑(List.length x.fst.snd.fst) : Int)) ∧ Wr
  (x_4.snd.fst + (1 : Nat) ≤ x_4.snd.fst + (1 : Nat)) ∧ Wr (updF AdT I64 x_4.snd.snd (List.getD x.fst.snd.fst (Int.toNat x_4.fst) (Ty.zero FatT)).fst (IntKind.wrap IntKind.i64 (Option.getD (x_4.snd.snd (List.getD
  x.fst.snd.fst (Int.toNat x_4.fst) (Ty.zero FatT)).fst) (0 : Int) + (1 : Int))) = updF AdT I64 x_4.snd.snd (List.getD x.fst.snd.fst (Int.toNat x_4.fst) (Ty.zero FatT)).fst (IntKind.wrap IntKind.i64 (Option.getD
  (x_4.snd.snd (List.getD x.fst.snd.fst (Int.toNat x_4.fst) (Ty.zero FatT)).fst) (0 : Int) + (1 : Int)))) ∧ Wr (x_2.snd.fst ≤ x_2.snd.fst) ∧ Wr (x_2.snd.snd = x_2.snd.snd) ∧ Wr (x.fst.fst = x.fst.fst) ∧ Wr (x.fst.snd.fst
  = x.fst.snd.fst) ∧ Wr (x.fst.snd.snd.fst = x.fst.snd.snd.fst) ∧ Wr (x.fst.snd.snd.snd.fst = x.fst.snd.snd.snd.fst))) (bcase (Bool.true && Bool.true && Decidable.decide (x.fst.snd.snd.fst ≥ (0 : Int)) && Decidable.decide
  (x.fst.snd.snd.fst ≤ (200 : Int))) (bcase (Decidable.decide ((↑(List.length x.fst.snd.snd.snd.fst) : Int) ≥ (0 : Int)) && Decidable.decide ((↑(List.length x.fst.snd.snd.snd.fst) : Int) ≤ (16 : Int))) ((Wr (IdxI (notB
  dropOk) x.fst.snd.snd.snd.fst (0 : Int)) ∧ Wr ((0 : Int) = (0 : Int)) ∧ Wr (x.fst.snd.snd.snd.fst = x.fst.snd.snd.snd.fst) ∧ Wr (x.fst.snd.snd.snd.fst = x.fst.snd.snd.snd.fst) ∧ Wr ((↑(List.length x.fst.snd.snd.snd.fst)
  : Int) = (↑(List.length x.fst.snd.snd.snd.fst) : Int)) ∧ Wr (x_4.snd.fst ≤ x_4.snd.fst) ∧ Wr (x_4.snd.snd = x_4.snd.snd) ∧ Wr (x_2.snd.fst ≤ x_2.snd.fst) ∧ Wr (x_2.snd.snd = x_2.snd.snd) ∧ Wr (x.fst.fst = x.fst.fst) ∧
  Wr (x.fst.snd.fst = x.fst.snd.fst) ∧ Wr (x.fst.snd.snd.fst = x.fst.snd.snd.fst) ∧ Wr (x.fst.snd.snd.snd.fst = x.fst.snd.snd.snd.fst)) ∧ ∀ (x_5 : Int), Wr (IdxI (notB dropOk) x.fst.snd.snd.snd.fst x_5) → bcase
  (Decidable.decide (x_5 < (↑(List.length x.fst.snd.snd.snd.fst) : Int))) (Wr ((0 : Int) ≤ x_5) ∧ Wr (x_5 < (↑(List.length x.fst.snd.snd.snd.fst) : Int)) ∧ Wr (Bool.true = Bool.true) ∧ Wr (Bool.true = Bool.true) ∧ bcase
  (!dropOk (List.getD x.fst.snd.snd.snd.fst (Int.toNat x_5) (0 : Int))) (bcase (Bool.true && (Bool.true && !Decidable.decide (x_5 ≥ (0 : Int)))) (((0 : Int), ()) = (check x.fst, ())) (((90 : Int), ()) = (check x.fst,
  ()))) (Wr (IdxI (notB dropOk) x.fst.snd.snd.snd.fst (IntKind.wrap IntKind.i64 (x_5 + (1 : Int)))) ∧ Wr (List.length x.fst.snd.snd.snd.fst - Int.toNat (IntKind.wrap IntKind.i64 (x_5 + (1 : Int))) < List.length
  x.fst.snd.snd.snd.fst - Int.toNat x_5) ∧ Wr (IntKind.wrap IntKind.i64 (x_5 + (1 : Int)) = IntKind.wrap IntKind.i64 (x_5 + (1 : Int))) ∧ Wr (x.fst.snd.snd.snd.fst = x.fst.snd.snd.snd.fst) ∧ Wr (x.fst.snd.snd.snd.fst =
  x.fst.snd.snd.snd.fst) ∧ Wr ((↑(List.length x.fst.snd.snd.snd.fst) : Int) = (↑(List.length x.fst.snd.snd.snd.fst) : Int)) ∧ Wr (x_4.snd.fst ≤ x_4.snd.fst) ∧ Wr (x_4.snd.snd = x_4.snd.snd) ∧ Wr (x_2.snd.fst ≤
  x_2.snd.fst) ∧ Wr (x_2.snd.snd = x_2.snd.snd) ∧ Wr (x.fst.fst = x.fst.fst) ∧ Wr (x.fst.snd.fst = x.fst.snd.fst) ∧ Wr (x.fst.snd.snd.fst = x.fst.snd.snd.fst) ∧ Wr (x.fst.snd.snd.snd.fst = x.fst.snd.snd.snd.fst))) (((0 :
  Int), ()) = (check x.fst, ()))) (((90 : Int), ()) = (check x.fst, ()))) (((90 : Int), ()) = (check x.fst, ()))))) (((90 : Int), ()) = (check x.fst, ()))))) (((90 : Int), ()) = (check x.fst, ()))) := by kernel_rfl
theorem v27_eq : vcFn g27 300 Tryz.f27 cFate = ( ∀ (x : (List (ByteArray × List (List (Int × (Int × Int × Int × Int × Int × Int × Int × Int × Unit) × Int × Unit)) × Unit) × List ((Int × (Int × Int × Int × Int × Int × Int × Int × Int × Unit) × Int × Unit) × List Int ×
  Unit) × Int × List Int × Unit) × (Int × (Int × Int × Int × Int × Int × Int × Int × Int × Unit) × Int × Unit) × Int × Unit), Wr (okP x.fst = Bool.true) → (Wr (IdxI (adIs x.snd.fst) x.fst.snd.fst (0 : Int)) ∧ Wr ((0 :
  Int) = (0 : Int)) ∧ Wr (x.fst.snd.fst = x.fst.snd.fst) ∧ Wr (x.fst.snd.fst = x.fst.snd.fst) ∧ Wr ((↑(List.length x.fst.snd.fst) : Int) = (↑(List.length x.fst.snd.fst) : Int)) ∧ Wr (x.snd.fst.fst = x.snd.fst.fst) ∧ Wr
  (x.snd.fst.snd.fst.fst = x.snd.fst.snd.fst.fst) ∧ Wr (x.snd.fst.snd.fst.snd.fst = x.snd.fst.snd.fst.snd.fst) ∧ Wr (x.snd.fst.snd.fst.snd.snd.fst = x.snd.fst.snd.fst.snd.snd.fst) ∧ Wr (x.snd.fst.snd.fst.snd.snd.snd.fst =
  x.snd.fst.snd.fst.snd.snd.snd.fst) ∧ Wr (x.snd.fst.snd.fst.snd.snd.snd.snd.fst = x.snd.fst.snd.fst.snd.snd.snd.snd.fst) ∧ Wr (x.snd.fst.snd.fst.snd.snd.snd.snd.snd.fst = x.snd.fst.snd.fst.snd.snd.snd.snd.snd.fst) ∧ Wr
  (x.snd.fst.snd.fst.snd.snd.snd.snd.snd.snd.fst = x.snd.fst.snd.fst.snd.snd.snd.snd.snd.snd.fst) ∧ Wr (x.snd.fst.snd.fst.snd.snd.snd.snd.snd.snd.snd.fst = x.snd.fst.snd.fst.snd.snd.snd.snd.snd.snd.snd.fst) ∧ Wr
  (x.snd.fst.snd.snd.fst = x.snd.fst.snd.snd.fst) ∧ Wr (x.fst.fst = x.fst.fst) ∧ Wr (x.fst.snd.fst = x.fst.snd.fst) ∧ Wr (x.fst.snd.snd.fst = x.fst.snd.snd.fst) ∧ Wr (x.fst.snd.snd.snd.fst = x.fst.snd.snd.snd.fst) ∧ Wr
  (x.snd.fst.fst = x.snd.fst.fst) ∧ Wr (x.snd.fst.snd.fst.fst = x.snd.fst.snd.fst.fst) ∧ Wr (x.snd.fst.snd.fst.snd.fst = x.snd.fst.snd.fst.snd.fst) ∧ Wr (x.snd.fst.snd.fst.snd.snd.fst = x.snd.fst.snd.fst.snd.snd.fst) ∧ Wr
  (x.snd.fst.snd.fst.snd.snd.snd.fst = x.snd.fst.snd.fst.snd.snd.snd.fst) ∧ Wr (x.snd.fst.snd.fst.snd.snd.snd.snd.fst = x.snd.fst.snd.fst.snd.snd.snd.snd.fst) ∧ Wr (x.snd.fst.snd.fst.snd.snd.snd.snd.snd.fst =
  x.snd.fst.snd.fst.snd.snd.snd.snd.snd.fst) ∧ Wr (x.snd.fst.snd.fst.snd.snd.snd.snd.snd.snd.fst = x.snd.fst.snd.fst.snd.snd.snd.snd.snd.snd.fst) ∧ Wr (x.snd.fst.snd.fst.snd.snd.snd.snd.snd.snd.snd.fst =
  x.snd.fst.snd.fst.snd.snd.snd.snd.snd.snd.snd.fst) ∧ Wr (x.snd.fst.snd.snd.fst = x.snd.fst.snd.snd.fst) ∧ Wr (x.fst.fst = x.fst.fst) ∧ Wr (x.fst.snd.fst = x.fst.snd.fst) ∧ Wr (x.fst.snd.snd.fst = x.fst.snd.snd.fst) ∧ Wr
  (x.fst.snd.snd.snd.fst = x.fst.snd.snd.snd.fst)) ∧ ∀ (x_1 : Int), Wr (IdxI (adIs x.snd.fst) x.fst.snd.fst x_1) → bcase (Decidable.decide (x_1 < (↑(List.length x.fst.snd.fst) : Int))) (Wr ((0 : Int) ≤ x_1) ∧ Wr (x_1 <
  (↑(List.length x.fst.snd.fst) : Int)) ∧ Wr (Bool.true = Bool.true) ∧ bcase (Ty.eqb (Ty.cons (Ty.int IntKind.i8) (Ty.cons (Ty.arr (8 : Nat) (Ty.int IntKind.u16)) (Ty.cons (Ty.int IntKind.i64) Ty.unit))) (List.getD
  x.fst.snd.fst (Int.toNat x_1) (Ty.zero FatT)).fst x.snd.fst) (bcase (Decidable.decide (x_1 < (0 : Int))) (((1 : Int), ()) = (fateF x.fst x.snd.fst x.snd.snd.fst, ())) (Wr ((0 : Int) ≤ x_1) ∧ Wr (x_1 < (↑(List.length
  x.fst.snd.fst) : Int)) ∧ Wr (Bool.true = Bool.true) ∧ Wr (Bool.true = Bool.true) ∧ bcase (Decidable.decide ((↑(List.length (List.getD x.fst.snd.fst (Int.toNat x_1) (Ty.zero FatT)).snd.fst) : Int) = (0 : Int))) (((1 :
  Int), ()) = (fateF x.fst x.snd.fst x.snd.snd.fst, ())) (Wr ((0 : Int) ≤ Min.min (Max.max x.snd.snd.fst (0 : Int)) (IntKind.wrap IntKind.i64 ((↑(List.length (List.getD x.fst.snd.fst (Int.toNat x_1) (Ty.zero
  FatT)).snd.fst) : Int) - (1 : Int)))) ∧ Wr (Min.min (Max.max x.snd.snd.fst (0 : Int)) (IntKind.wrap IntKind.i64 ((↑(List.length (List.getD x.fst.snd.fst (Int.toNat x_1) (Ty.zero FatT)).snd.fst) : Int) - (1 : Int))) <
  (↑(List.length (List.getD x.fst.snd.fst (Int.toNat x_1) (Ty.zero FatT)).snd.fst) : Int)) ∧ Wr (Bool.true = Bool.true) ∧ (List.getD (List.getD x.fst.snd.fst (Int.toNat x_1) (Ty.zero FatT)).snd.fst (Int.toNat (Min.min
  (Max.max x.snd.snd.fst (0 : Int)) (IntKind.wrap IntKind.i64 ((↑(List.length (List.getD x.fst.snd.fst (Int.toNat x_1) (Ty.zero FatT)).snd.fst) : Int) - (1 : Int))))) (0 : Int), ()) = (fateF x.fst x.snd.fst x.snd.snd.fst,
  ())))) (Wr (IdxI (adIs x.snd.fst) x.fst.snd.fst (IntKind.wrap IntKind.i64 (x_1 + (1 : Int)))) ∧ Wr (List.length x.fst.snd.fst - Int.toNat (IntKind.wrap IntKind.i64 (x_1 + (1 : Int))) < List.length x.fst.snd.fst -
  Int.toNat x_1) ∧ Wr (IntKind.wrap IntKind.i64 (x_1 + (1 : Int)) = IntKind.wrap IntKind.i64 (x_1 + (1 : Int))) ∧ Wr (x.fst.snd.fst = x.fst.snd.fst) ∧ Wr (x.fst.snd.fst = x.fst.snd.fst) ∧ Wr ((↑(List.length x.fst.snd.fst)
  : Int) = (↑(List.length x.fst.snd.fst) : Int)) ∧ Wr (x.snd.fst.fst = x.snd.fst.fst) ∧ Wr (x.snd.fst.snd.fst.fst = x.snd.fst.snd.fst.fst) ∧ Wr (x.snd.fst.snd.fst.snd.fst = x.snd.fst.snd.fst.snd.fst) ∧ Wr
  (x.snd.fst.snd.fst.snd.snd.fst = x.snd.fst.snd.fst.snd.snd.fst) ∧ Wr (x.snd.fst.snd.fst.snd.snd.snd.fst = x.snd.fst.snd.fst.snd.snd.snd.fst) ∧ Wr (x.snd.fst.snd.fst.snd.snd.snd.snd.fst =
  x.snd.fst.snd.fst.snd.snd.snd.snd.fst) ∧ Wr (x.snd.fst.snd.fst.snd.snd.snd.snd.snd.fst = x.snd.fst.snd.fst.snd.snd.snd.snd.snd.fst) ∧ Wr (x.snd.fst.snd.fst.snd.snd.snd.snd.snd.snd.fst =
  x.snd.fst.snd.fst.snd.snd.snd.snd.snd.snd.fst) ∧ Wr (x.snd.fst.snd.fst.snd.snd.snd.snd.snd.snd.snd.fst = x.snd.fst.snd.fst.snd.snd.snd.snd.snd.snd.snd.fst) ∧ Wr (x.snd.fst.snd.snd.fst = x.snd.fst.snd.snd.fst) ∧ Wr
  (x.fst.fst = x.fst.fst) ∧ Wr (x.fst.snd.fst = x.fst.snd.fst) ∧ Wr (x.fst.snd.snd.fst = x.fst.snd.snd.fst) ∧ Wr (x.fst.snd.snd.snd.fst = x.fst.snd.snd.snd.fst) ∧ Wr (x.snd.fst.fst = x.snd.fst.fst) ∧ Wr
  (x.snd.fst.snd.fst.fst = x.snd.fst.snd.fst.fst) ∧ Wr (x.snd.fst.snd.fst.snd.fst = x.snd.fst.snd.fst.snd.fst) ∧ Wr (x.snd.fst.snd.fst.snd.snd.fst = x.snd.fst.snd.fst.snd.snd.fst) ∧ Wr (x.snd.fst.snd.fst.snd.snd.snd.fst =
  x.snd.fst.snd.fst.snd.snd.snd.fst) ∧ Wr (x.snd.fst.snd.fst.snd.snd.snd.snd.fst = x.snd.fst.snd.fst.snd.snd.snd.snd.fst) ∧ Wr (x.snd.fst.snd.fst.snd.snd.snd.snd.snd.fst = x.snd.fst.snd.fst.snd.snd.snd.snd.snd.fst) ∧ Wr
  (x.snd.fst.snd.fst.snd.snd.snd.snd.snd.snd.fst = x.snd.fst.snd.fst.snd.snd.snd.snd.snd.snd.fst) ∧ Wr (x.snd.fst.snd.fst.snd.snd.snd.snd.snd.snd.snd.fst = x.snd.fst.snd.fst.snd.snd.snd.snd.snd.snd.snd.fst) ∧ Wr
  (x.snd.fst.snd.snd.fst = x.snd.fst.snd.snd.fst) ∧ Wr (x.fst.fst = x.fst.fst) ∧ Wr (x.fst.snd.fst = x.fst.snd.fst) ∧ Wr (x.fst.snd.snd.fst = x.fst.snd.snd.fst) ∧ Wr (x.fst.snd.snd.snd.fst = x.fst.snd.snd.snd.fst))) (((1
  : Int), ()) = (fateF x.fst x.snd.fst x.snd.snd.fst, ()))) := by kernel_rfl
end Go.Proofs.YtfhlceooobabcaaGreatDoor.Wd
set_option linter.all false
namespace Go.Proofs.YtfhlceooobabcaaGreatDoor.Wd
open Go Go.Eng Go.Lb Go.Ad
set_option maxRecDepth 100000
set_option maxHeartbeats 2000000

theorem IdxI.zero {α : Type} (p : α → Bool) (l : List α) : IdxI p l 0 := ⟨by omega, by omega, rfl⟩
theorem IdxI.on {α : Type} {p : α → Bool} {l : List α} {i : Int} (z : α) (hl : l.length ≤ 5000000000) (hi : IdxI p l i) (h : i < l.length) (hq : p (l.getD i.toNat z) = false) :
    IdxI p l (IntKind.wrap .i64 (i + 1)) ∧ l.length - (IntKind.wrap .i64 (i + 1)).toNat < l.length - i.toNat := by
  have h0 := hi.i0
  rw [w64 (by omega) (by omega)]
  refine ⟨⟨by omega, by omega, ?_⟩, by omega⟩
  rw [take_succ l i z h0 h, List.any_append, hi.a, List.any_cons, List.any_nil, hq]
  rfl
theorem IdxI.hit {α : Type} {p : α → Bool} {l : List α} {i : Int} {z : α} (hi : IdxI p l i) (h : i < l.length) (hq : p (l.getD i.toNat z) = true) : l.any p = true :=
  List.any_eq_true.2 ⟨_, getD_memA (z := z) hi.i0 h, hq⟩
theorem IdxI.fin {α : Type} {p : α → Bool} {l : List α} {i : Int} (hi : IdxI p l i) (h : ¬ i < l.length) : l.any p = false := by
  have := hi.a
  rwa [take_all hi.i1 h] at this
theorem any_notB {α : Type} (p : α → Bool) (l : List α) : l.any (notB p) = !l.all p := by
  induction l with
  | nil => rfl
  | cons a l ih => simp only [List.any_cons, List.all_cons, ih, notB, Bool.not_and]
/-- found, one that is not so -/
theorem IdxI.bad {α : Type} {p : α → Bool} {l : List α} {i : Int} {z : α} (hi : IdxI (notB p) l i) (h : i < l.length) (hq : p (l.getD i.toNat z) = false) : l.all p = false := by
  have := hi.hit (z := z) h (by rw [notB, hq]; rfl)
  rw [any_notB] at this
  simpa using this
theorem IdxI.good {α : Type} {p : α → Bool} {l : List α} {i : Int} (hi : IdxI (notB p) l i) (h : ¬ i < l.length) : l.all p = true := by
  have := hi.fin h
  rw [any_notB] at this
  simpa using this
theorem IdxI.onN {α : Type} {p : α → Bool} {l : List α} {i : Int} (z : α) (hl : l.length ≤ 5000000000) (hi : IdxI (notB p) l i) (h : i < l.length) (hq : p (l.getD i.toNat z) = true) :
    IdxI (notB p) l (IntKind.wrap .i64 (i + 1)) ∧ l.length - (IntKind.wrap .i64 (i + 1)).toNat < l.length - i.toNat := hi.on z hl h (by rw [notB, hq]; rfl)

/-! no two the same -/
theorem UnlI.zero {α κ : Type} [DecidableEq κ] (k : α → κ) (l : List α) : UnlI k l 0 0 (fun _ => none) := ⟨by omega, by omega, rfl, fun _ => rfl, List.nodup_nil⟩
theorem UnlI.get {α κ : Type} [DecidableEq κ] {k : α → κ} {l : List α} {i : Int} {n : Nat} {f : κ → Option Int} (h : UnlI k l i n f) (x : κ) : (f x).getD 0 = bif decide (x ∈ (l.take i.toNat).map k) then 1 else 0 := by
  rw [h.f x]
  cases decide (x ∈ (l.take i.toNat).map k) <;> rfl
/-- one that was there -/
theorem UnlI.twice {α κ : Type} [DecidableEq κ] {k : α → κ} {l : List α} {i : Int} {n : Nat} {f : κ → Option Int} {z : α} (h : UnlI k l i n f) (hi : i < l.length) (hk : k (l.getD i.toNat z) ∈ (l.take i.toNat).map k) : ¬ (l.map k).Nodup := by
  intro hn
  have e : (l.take (i + 1).toNat).map k = (l.take i.toNat).map k ++ [k (l.getD i.toNat z)] := by rw [take_succ l i z h.i0 hi]; simp
  have hs : ((l.take (i + 1).toNat).map k).Nodup := by
    exact ((List.take_sublist _ _).map k).nodup hn
  rw [e] at hs
  exact (List.nodup_append.1 hs).2.2 _ hk _ (List.mem_singleton.2 rfl) rfl
theorem UnlI.on {α κ : Type} [DecidableEq κ] {k : α → κ} {l : List α} {i : Int} {n : Nat} {f f' : κ → Option Int} {z : α} (h : UnlI k l i n f) (hl : l.length ≤ 5000000000) (hi : i < l.length) (hk : ¬ k (l.getD i.toNat z) ∈ (l.take i.toNat).map k)
    (hf : ∀ x, f' x = if x = k (l.getD i.toNat z) then some 1 else f x) : UnlI k l (IntKind.wrap .i64 (i + 1)) (n + 1) f' ∧ l.length - (IntKind.wrap .i64 (i + 1)).toNat < l.length - i.toNat := by
  have h0 := h.i0
  have hn := h.n
  rw [w64 (by omega) (by omega)]
  have e : (l.take (i + 1).toNat).map k = (l.take i.toNat).map k ++ [k (l.getD i.toNat z)] := by rw [take_succ l i z h0 hi]; simp
  refine ⟨⟨by omega, by omega, by omega, fun x => ?_, ?_⟩, by omega⟩
  · rw [hf x, e]
    by_cases hx : x = k (l.getD i.toNat z)
    · rw [if_pos hx]; simp [hx]
    · rw [if_neg hx, h.f x]; congr 1; rw [decide_eq_decide]; simp only [List.mem_append, List.mem_singleton]; exact ⟨.inl, fun o => o.resolve_right hx⟩
  · rw [e]
    refine List.nodup_append.2 ⟨h.d, by simp, fun a ha b hb => ?_⟩
    simp only [List.mem_singleton] at hb
    subst hb
    exact fun e => hk (e ▸ ha)
theorem UnlI.fin {α κ : Type} [DecidableEq κ] {k : α → κ} {l : List α} {i : Int} {n : Nat} {f : κ → Option Int} (h : UnlI k l i n f) (hi : ¬ i < l.length) : (l.map k).Nodup := by
  have := h.d
  rwa [take_all h.i1 hi] at this
theorem UnlI.room {α κ : Type} [DecidableEq κ] {k : α → κ} {l : List α} {i : Int} {n : Nat} {f : κ → Option Int} (h : UnlI k l i n f) (hi : i < l.length) (hl : l.length ≤ 5000000000) : n < maxLen := by
  have := h.n; have := h.i0; unfold maxLen; omega
/-- what counting up comes to -/
theorem updF_same {kt : Ty} (hk : keyable kt = true) (f : kt.El → Option Int) (x : kt.El) (y : Int) : ((updF kt I64 f x y) x).getD 0 = y := by
  unfold updF
  rw [(eqb_iff kt hk x x).2 rfl]
  rfl
theorem updF_if {kt : Ty} [DecidableEq kt.El] (hk : keyable kt = true) (f : kt.El → Option Int) (x : kt.El) (y : Int) (u : kt.El) : (updF kt I64 f x y) u = if u = x then some y else f u := by
  unfold updF
  by_cases h : u = x
  · rw [(eqb_iff kt hk u x).2 h, if_pos h]; rfl
  · rw [if_neg h]
    have : kt.eqb u x = false := by
      cases e : kt.eqb u x with
      | false => rfl
      | true => exact absurd ((eqb_iff kt hk u x).1 e) h
    rw [this]; rfl
/-- a round of 'unlike' -/
theorem UnlI.step {α : Type} {kt : Ty} [DecidableEq kt.El] (hk : keyable kt = true) {k : α → kt.El} {l : List α} {i : Int} {n : Nat} {f : kt.El → Option Int} {z : α} (h : UnlI k l i n f) (hl : l.length ≤ 5000000000) (hi : i < l.length) {y : kt.El} (hy : y = k (l.getD i.toNat z)) :
    (((updF kt I64 f y (IntKind.wrap .i64 ((f y).getD 0 + 1))) y).getD 0 > 1 → ¬ (l.map k).Nodup) ∧ (¬ ((updF kt I64 f y (IntKind.wrap .i64 ((f y).getD 0 + 1))) y).getD 0 > 1 →
      UnlI k l (IntKind.wrap .i64 (i + 1)) (n + 1) (updF kt I64 f y (IntKind.wrap .i64 ((f y).getD 0 + 1))) ∧ l.length - (IntKind.wrap .i64 (i + 1)).toNat < l.length - i.toNat) := by
  have hg := h.get y
  have h1 : IntKind.wrap .i64 (1 + 1) = 2 := by decide
  have h2 : IntKind.wrap .i64 (0 + 1) = 1 := by decide
  rw [updF_same hk, hg]
  by_cases hm : y ∈ (l.take i.toNat).map k
  · rw [decide_eq_true hm]
    simp only [cond_true, h1]
    exact ⟨fun _ => h.twice (z := z) hi (hy ▸ hm), fun hn => absurd (show (2 : Int) > 1 by decide) hn⟩
  · rw [decide_eq_false hm]
    simp only [cond_false, h2]
    refine ⟨fun hn => absurd hn (show ¬ (1 : Int) > 1 by decide), fun _ => h.on (z := z) hl hi (hy ▸ hm) fun x => ?_⟩
    rw [updF_if hk, hy]

instance : DecidableEq AdT.El := dA
theorem kAd : keyable AdT = true := by decide
theorem pr {b c : Bool} (h : b = c) : (b, ()) = (c, ()) := by rw [h]
theorem v117 : Vc g117 300 Tryz.f117 cRowOk := by
  constructor
  rw [v117_eq]
  simp only [Wr_iff, bcase_iff, true_and, and_true, decide_eq_true_eq, decide_eq_false_iff_not, Bool.and_eq_true, Bool.and_eq_false_iff, Bool.or_eq_true, Bool.or_eq_false_iff, Bool.not_eq_true', Bool.not_eq_false', Option.map_some, Option.getD_some, Option.isSome_some, Option.isSome_map, imp_self, nilL, noneO]
  intro x _
  generalize x.fst = l
  refine ⟨fun h => (lenA_iff l).2 (by omega), fun h => ⟨⟨UnlI.zero _ _, Nat.le_refl _⟩, fun ⟨i, n, f⟩ hu => ⟨fun hi => ?_, fun hi => ?_⟩⟩, fun h => ?_⟩
  · have hl : List.length l ≤ 5000000000 := by have := h.1; omega
    obtain ⟨h1, h2⟩ := UnlI.step (α := Ad) (kt := AdT) kAd hu hl hi (z := Ty.zero AdT) rfl
    refine ⟨hu.i0, hi, hu.room hi hl, fun hg => ?_, fun hg => ?_⟩
    · have h3 : ¬ List.Nodup (α := Ad) l := fun hn => h1 hg ((congrArg List.Nodup (List.map_id' (α := Ad) l)).mpr hn)
      refine pr ?_
      simp [rowOk, h3]
    · exact ⟨(h2 hg).1, (h2 hg).2, Nat.le_refl _⟩
  · have h3 : List.Nodup (α := Ad) l := (congrArg List.Nodup (List.map_id' (α := Ad) l)).mp (hu.fin hi)
    refine pr ?_
    simp only [rowOk, decide_eq_true h3, h.2, Bool.and_true, Bool.true_and]
    exact (decide_eq_true (by have := h.1; omega)).symm
  · refine pr ?_
    simp only [rowOk]
    rcases h with h | h
    · simp [show ¬ l.length ≤ 16 by omega]
    · simp [h]
theorem zone_iff (z : Zn) : zoneOk z = true ↔ (fold2 z.1 = 0 ∧ fold1 z.1 = z.1) ∧ (1 ≤ z.2.1.length ∧ z.2.1.length ≤ 32) ∧ z.2.1.all rowOk = true := by
  simp only [zoneOk, Bool.and_eq_true, decide_eq_true_eq, fold2_iff]
  constructor
  · rintro ⟨h, h1, h2, h3⟩; exact ⟨h, ⟨h1, h2⟩, h3⟩
  · rintro ⟨h, ⟨h1, h2⟩, h3⟩; exact ⟨h, h1, h2, h3⟩
theorem no_of {b : Bool} {p : Prop} (h : b = true ↔ p) (hp : ¬ p) : b = false := by
  cases hb : b with
  | false => rfl
  | true => exact absurd (h.1 hb) hp
theorem v79 : Vc g79 300 Tryz.f79 cZone := by
  constructor
  rw [v79_eq]
  simp only [Wr_iff, bcase_iff, true_and, and_true, decide_eq_true_eq, decide_eq_false_iff_not, Bool.and_eq_true, Bool.and_eq_false_iff, Bool.or_eq_true, Bool.or_eq_false_iff, Bool.not_eq_true', Bool.not_eq_false', Option.map_some, Option.getD_some, Option.isSome_some, Option.isSome_map, imp_self, nilL, noneO]
  intro x _
  generalize x.fst = z
  refine ⟨fun h => ⟨fun hl => ⟨IdxI.zero _ _, fun i hu => ⟨fun hi => ⟨hu.i0, hi, fun hg => ?_, fun hg => ?_⟩, fun hi => ?_⟩⟩, fun hl => ?_⟩, fun h => ?_⟩
  · refine pr ?_
    rw [no_of (zone_iff z) (fun hz => by rw [hu.bad hi hg] at hz; cases hz.2.2)]
    simp only [Bool.true_and, Bool.not_eq_false', decide_eq_true_eq]
    exact hu.i0
  · exact hu.onN _ (by have := hl.2; omega) hi hg
  · refine pr ?_
    rw [(zone_iff z).2 ⟨h, by have := hl.1; have := hl.2; omega, hu.good hi⟩]
    rfl
  · refine pr ?_
    rw [no_of (zone_iff z) (fun hz => by have := hz.2.1; omega)]
    rfl
  · refine pr ?_
    rw [no_of (zone_iff z) (fun hz => by
      rcases h with h | h
      · exact h hz.1.1
      · exact h hz.1.2)]
    rfl
theorem fate_iff (f : Ft) : fateOk f = true ↔ may1 f.1 = true ∧ (1 ≤ f.2.1.length ∧ f.2.1.length ≤ 32) ∧ f.2.1.all fateIn = true := by
  simp only [fateOk, Bool.and_eq_true, decide_eq_true_eq]
  constructor
  · rintro ⟨h, h1, h2, h3⟩; exact ⟨h, ⟨h1, h2⟩, h3⟩
  · rintro ⟨h, ⟨h1, h2⟩, h3⟩; exact ⟨h, h1, h2, h3⟩
theorem may_one (a : Ad) : mayA [a] = may1 a := by simp [mayA]
theorem v81 : Vc g81 300 Tryz.f81 cFat := by
  constructor
  rw [v81_eq]
  simp only [Wr_iff, bcase_iff, true_and, and_true, decide_eq_true_eq, decide_eq_false_iff_not, Bool.and_eq_true, Bool.and_eq_false_iff, Bool.or_eq_true, Bool.or_eq_false_iff, Bool.not_eq_true', Bool.not_eq_false', Option.map_some, Option.getD_some, Option.isSome_some, Option.isSome_map, imp_self, nilL, noneO]
  intro x _
  generalize x.fst = z
  refine ⟨rfl, fun h => ⟨fun hl => ⟨IdxI.zero _ _, fun i hu => ⟨fun hi => ⟨hu.i0, hi, fun hg => ?_, fun hg => ?_⟩, fun hi => ?_⟩⟩, fun hl => ?_⟩, fun h => ?_⟩
  · refine pr ?_
    have hg' : fateIn (z.2.1.getD i.toNat 0) = false := by
      simp only [fateIn, Bool.and_eq_false_iff, decide_eq_false_iff_not]
      exact hg
    rw [no_of (fate_iff z) (fun hz => by rw [hu.bad hi hg'] at hz; cases hz.2.2)]
    simp only [Bool.true_and, Bool.not_eq_false', decide_eq_true_eq]
    exact hu.i0
  · have hg' : fateIn (z.2.1.getD i.toNat 0) = true := by
      simp only [fateIn, Bool.and_eq_true, decide_eq_true_eq]
      exact hg
    exact hu.onN 0 (by have := hl.2; omega) hi hg'
  · refine pr ?_
    rw [(fate_iff z).2 ⟨by rw [← may_one]; exact h, by have := hl.1; have := hl.2; omega, hu.good hi⟩]
    rfl
  · refine pr ?_
    rw [no_of (fate_iff z) (fun hz => by have := hz.2.1; omega)]
    rfl
  · refine pr ?_
    rw [no_of (fate_iff z) (fun hz => by have h2 := hz.1; rw [← may_one] at h2; exact absurd (h.symm.trans h2) (by decide))]
    rfl
theorem v82 : Vc g82 300 Tryz.f82 cDropOk := by
  constructor
  rw [v82_eq]
  intro x _
  exact pr rfl
end Go.Proofs.YtfhlceooobabcaaGreatDoor.Wd
set_option linter.all false
namespace Go.Proofs.YtfhlceooobabcaaGreatDoor.Wd
open Go Go.Eng Go.Lb Go.Ad
set_option maxRecDepth 100000
set_option maxHeartbeats 4000000

theorem split_at {α : Type} {l : List α} {i : Int} (z : α) (h0 : 0 ≤ i) (h : i < l.length) : l = l.take i.toNat ++ l.getD i.toNat z :: l.drop (i.toNat + 1) := by
  have h' : i.toNat < l.length := by omega
  rw [List.getD_eq_getElem?_getD, List.getElem?_eq_getElem h', Option.getD_some, ← List.drop_eq_getElem_cons h', List.take_append_drop]
theorem IdxI.find {α : Type} {p : α → Bool} {l : List α} {i : Int} (z : α) (hi : IdxI p l i) (h : i < l.length) (hq : p (l.getD i.toNat z) = true) : l.find? p = some (l.getD i.toNat z) := by
  have hs := split_at z hi.i0 h
  have hn : (l.take i.toNat).find? p = none := by
    rw [List.find?_eq_none]
    intro x hx hp
    have := hi.a
    rw [List.any_eq_false] at this
    exact this x hx hp
  generalize l.getD i.toNat z = y at hs hq ⊢
  rw [hs, List.find?_append, hn, List.find?_cons, hq]
  rfl
theorem IdxI.none {α : Type} {p : α → Bool} {l : List α} {i : Int} (hi : IdxI p l i) (h : ¬ i < l.length) : l.find? p = none := by
  rw [List.find?_eq_none]
  intro x hx hp
  have := hi.fin h
  rw [List.any_eq_false] at this
  exact this x hx hp
theorem okP_iff (p : Pl) : okP p = true ↔ p.2.1.length ≤ 1000000 ∧ ∀ f ∈ p.2.1, f.2.1.length ≤ 1000000 := by
  simp [okP, okF]
theorem minI (n : Int) {m : Int} (h : 1 ≤ m) : 0 ≤ min (max n 0) (m - 1) ∧ min (max n 0) (m - 1) < m := by omega
theorem fateRow_some {p : Pl} {a : Ad} {f : Ft} (h : p.2.1.find? (adIs a) = some f) : fateRow p a = f.2.1 := by unfold fateRow; rw [h]
theorem fateRow_none {p : Pl} {a : Ad} (h : p.2.1.find? (adIs a) = none) : fateRow p a = [] := by unfold fateRow; rw [h]
theorem fate_got {p : Pl} {a : Ad} {n : Int} {L : List Int} (hr : fateRow p a = L) (hm : L.length ≤ 1000000) (h : ¬ ((L.length : Int) = 0)) :
    0 ≤ min (max n 0) (IntKind.wrap .i64 ((L.length : Int) - 1)) ∧ min (max n 0) (IntKind.wrap .i64 ((L.length : Int) - 1)) < L.length ∧ (L.getD (min (max n 0) (IntKind.wrap .i64 ((L.length : Int) - 1))).toNat 0, ()) = (fateF p a n, ()) := by
  have hL : (1 : Int) ≤ L.length := by omega
  rw [w64 (by omega) (by omega)]
  obtain ⟨k1, k2⟩ := minI n hL
  refine ⟨k1, k2, ?_⟩
  rw [fateF, hr, fateAt, decide_eq_false (by omega)]
  rfl
theorem v27 : Vc g27 300 Tryz.f27 cFate := by
  constructor
  rw [v27_eq]
  simp only [Wr_iff, bcase_iff, true_and, and_true, decide_eq_true_eq, decide_eq_false_iff_not, Bool.and_eq_true, Bool.and_eq_false_iff, Bool.or_eq_true, Bool.or_eq_false_iff, Bool.not_eq_true', Bool.not_eq_false', Option.map_some, Option.getD_some, Option.isSome_some, Option.isSome_map, imp_self, nilL, noneO]
  intro x
  obtain ⟨p, a, n, ⟨⟩⟩ := x
  dsimp only
  intro hp
  obtain ⟨hp1, hp2⟩ := (okP_iff p).1 hp
  have nf : fateRow p a = [] → ((1 : Int), ()) = (fateF p a n, ()) := fun h => by rw [fateF, h]; rfl
  have hlen : p.2.1.length ≤ 5000000000 := by omega
  refine ⟨?_, fun i hu => ⟨fun hi => ?_, fun hi => ?_⟩⟩
  · exact IdxI.zero _ _
  · refine ⟨hu.i0, hi, fun hg => ⟨fun h => absurd h (by have := hu.i0; omega), fun _ => ?_⟩, fun hg => ?_⟩
    · have hg' : adIs a (p.2.1.getD i.toNat FatT.zero) = true := by
        simp only [adIs, decide_eq_true_eq]
        exact (eqA _ _).1 hg
      have hf := hu.find FatT.zero hi hg'
      have hm := hp2 _ (getD_memA (z := FatT.zero) hu.i0 hi)
      refine ⟨hu.i0, hi, fun h => nf ((fateRow_some hf).trans (List.length_eq_zero_iff.1 (Int.ofNat_eq_zero.1 h))), fun h => fate_got (fateRow_some hf) hm h⟩
    · have hg' : adIs a (p.2.1.getD i.toNat FatT.zero) = false := by
        simp only [adIs, decide_eq_false_iff_not]
        exact (eqA_f _ _).1 hg
      obtain ⟨k1, k2⟩ := hu.on FatT.zero hlen hi hg'
      exact ⟨k1, k2⟩
  · refine nf ?_
    exact fateRow_none (hu.none hi)

/-! a plan -/
theorem check_iff (p : Pl) : checkB p = true ↔ (p.1.length ≤ 8 ∧ p.1.all zoneOk = true) ∧ (p.1.map nameOf).Nodup ∧ (p.2.1.length ≤ 32 ∧ p.2.1.all fateOk = true) ∧ (p.2.1.map adOf).Nodup ∧ 0 ≤ p.2.2.1 ∧ p.2.2.1 ≤ 200 ∧ p.2.2.2.1.length ≤ 16 ∧ p.2.2.2.1.all dropOk = true := by
  simp only [checkB, unlN, unlF, Bool.and_eq_true, decide_eq_true_eq]
theorem chk_no {p : Pl} (h : ¬ ((p.1.length ≤ 8 ∧ p.1.all zoneOk = true) ∧ (p.1.map nameOf).Nodup ∧ (p.2.1.length ≤ 32 ∧ p.2.1.all fateOk = true) ∧ (p.2.1.map adOf).Nodup ∧ 0 ≤ p.2.2.1 ∧ p.2.2.1 ≤ 200 ∧ p.2.2.2.1.length ≤ 16 ∧ p.2.2.2.1.all dropOk = true)) : ((90 : Int), ()) = (check p, ()) := by
  rw [check, no_of (check_iff p) h]; rfl
instance : DecidableEq Ty.str.El := inferInstanceAs (DecidableEq ByteArray)
theorem kStr : keyable .str = true := rfl
theorem v36 : Vc g36 300 Tryz.f36 cCheck := by
  constructor
  rw [v36_eq]
  simp only [Wr_iff, bcase_iff, true_and, and_true, decide_eq_true_eq, decide_eq_false_iff_not, Bool.and_eq_true, Bool.and_eq_false_iff, Bool.or_eq_true, Bool.or_eq_false_iff, Bool.not_eq_true', Bool.not_eq_false', Option.map_some, Option.getD_some, Option.isSome_some, Option.isSome_map, imp_self, nilL, noneO]
  intro x _
  generalize x.fst = p
  refine ⟨fun h1 => ⟨by ((repeat' apply And.intro) <;> first | exact Nat.le_refl _ | exact IdxI.zero _ _ | exact UnlI.zero _ _ | assumption), fun i hu => ⟨fun hi => ⟨hu.i0, hi, fun hg => ⟨fun h => absurd hu.i0 h, fun _ => chk_no (fun hc => by rw [hu.bad hi hg] at hc; cases hc.1.2)⟩, fun hg => ?_⟩, fun hi => ?_⟩⟩, fun h => chk_no (fun hc => by have := hc.1.1; omega)⟩
  · have hl : p.1.length ≤ 5000000000 := by have := h1.2; omega
    have k := hu.onN (ZoneT.zero) hl hi hg
    obtain ⟨k1, k2⟩ := k
    ((repeat' apply And.intro) <;> first | exact Nat.le_refl _ | exact IdxI.zero _ _ | exact UnlI.zero _ _ | assumption)
  have hz := hu.good hi
  clear hu hi i
  refine ⟨by ((repeat' apply And.intro) <;> first | exact Nat.le_refl _ | exact IdxI.zero _ _ | exact UnlI.zero _ _ | assumption), fun ⟨i, n, f⟩ hu => ⟨fun hi => ⟨hu.i0, hi, hu.room hi (by have := h1.2; omega), fun hg => ?_, fun hg => ?_⟩, fun hi => ?_⟩⟩
  · exact chk_no (fun hc => (UnlI.step (α := Zn) (kt := .str) kStr hu (by have := h1.2; omega) hi (z := ZoneT.zero) rfl).1 hg hc.2.1)
  · obtain ⟨k1, k2⟩ := (UnlI.step (α := Zn) (kt := .str) kStr hu (by have := h1.2; omega) hi (z := ZoneT.zero) rfl).2 hg
    ((repeat' apply And.intro) <;> first | exact Nat.le_refl _ | exact IdxI.zero _ _ | exact UnlI.zero _ _ | assumption)
  have hn := hu.fin hi
  clear hu hi
  refine ⟨fun h2 => ⟨by ((repeat' apply And.intro) <;> first | exact Nat.le_refl _ | exact IdxI.zero _ _ | exact UnlI.zero _ _ | assumption), fun i hu => ⟨fun hi => ⟨hu.i0, hi, fun hg => ⟨fun h => absurd hu.i0 h, fun _ => chk_no (fun hc => by rw [hu.bad hi hg] at hc; cases hc.2.2.1.2)⟩, fun hg => ?_⟩, fun hi => ?_⟩⟩, fun h => chk_no (fun hc => by have := hc.2.2.1.1; omega)⟩
  · have hl : p.2.1.length ≤ 5000000000 := by have := h2.2; omega
    obtain ⟨k1, k2⟩ := hu.onN (FatT.zero) hl hi hg
    ((repeat' apply And.intro) <;> first | exact Nat.le_refl _ | exact IdxI.zero _ _ | exact UnlI.zero _ _ | assumption)
  have hf := hu.good hi
  clear hu hi i
  refine ⟨by ((repeat' apply And.intro) <;> first | exact Nat.le_refl _ | exact IdxI.zero _ _ | exact UnlI.zero _ _ | assumption), fun ⟨i, n, f⟩ hu => ⟨fun hi => ⟨hu.i0, hi, hu.room hi (by have := h2.2; omega), fun hg => ?_, fun hg => ?_⟩, fun hi => ?_⟩⟩
  · exact chk_no (fun hc => (UnlI.step (α := Ft) (kt := AdT) kAd hu (by have := h2.2; omega) hi (z := FatT.zero) rfl).1 hg hc.2.2.2.1)
  · obtain ⟨k1, k2⟩ := (UnlI.step (α := Ft) (kt := AdT) kAd hu (by have := h2.2; omega) hi (z := FatT.zero) rfl).2 hg
    ((repeat' apply And.intro) <;> first | exact Nat.le_refl _ | exact IdxI.zero _ _ | exact UnlI.zero _ _ | assumption)
  have ha := hu.fin hi
  clear hu hi
  refine ⟨fun h3 => ⟨fun h4 => ⟨by ((repeat' apply And.intro) <;> first | exact Nat.le_refl _ | exact IdxI.zero _ _ | exact UnlI.zero _ _ | assumption), fun i hu => ⟨fun hi => ⟨hu.i0, hi, fun hg => ⟨fun h => absurd hu.i0 h, fun _ => chk_no (fun hc => by rw [hu.bad hi hg] at hc; cases hc.2.2.2.2.2.2.2)⟩, fun hg => ?_⟩, fun hi => ?_⟩⟩, fun h => chk_no (fun hc => by have := hc.2.2.2.2.2.2.1; omega)⟩, fun h => chk_no (fun hc => ?_)⟩
  · have hl : p.2.2.2.1.length ≤ 5000000000 := by have := h4.2; omega
    obtain ⟨k1, k2⟩ := hu.onN 0 hl hi hg
    ((repeat' apply And.intro) <;> first | exact Nat.le_refl _ | exact IdxI.zero _ _ | exact UnlI.zero _ _ | assumption)
  · have hd := hu.good hi
    have hl1 : p.1.length ≤ 8 := by have := h1.2; omega
    have hl2 : p.2.1.length ≤ 32 := by have := h2.2; omega
    have hl4 : p.2.2.2.1.length ≤ 16 := by have := h4.2; omega
    have hc : checkB p = true := (check_iff p).2 ⟨⟨hl1, hz⟩, hn, ⟨hl2, hf⟩, ha, h3.1, h3.2, hl4, hd⟩
    rw [check, hc]
    rfl
  · have q1 := hc.2.2.2.2.1
    have q2 := hc.2.2.2.2.2.1
    rcases h with (h | h) | h
    · simp at h
    · exact h q1
    · exact h q2
end Go.Proofs.YtfhlceooobabcaaGreatDoor.Wd
namespace Go.Proofs.YtfhlceooobabcaaGreatDoor.Wd
open Go Go.Eng Go.Lb Go.Ad
set_option maxRecDepth 100000
theorem val117 : Valid Tryz.prog GW 117 cRowOk := mkValidK gws Tb.mix Tb.tab_ok Tb.eqs_ok (by kernel_rfl) g117 rfl (allV_cons val45 allV_nil) (allI_cons Tryz.func118 (by kernel_rfl) (allI_cons Tryz.func119 (by kernel_rfl) allI_nil)) Tryz.func117 (by kernel_rfl) v117
theorem val79 : Valid Tryz.prog GW 79 cZone := mkValid gws Tb.mix Tb.tab_ok Tb.eqs_ok g79 rfl (allV_cons val45 (allV_cons (valFold val143) (allV_cons val117 allV_nil))) (allI_cons Tryz.func68 (by kernel_rfl) (allI_cons Tryz.func80 (by kernel_rfl) (allI_cons Tryz.func107 (by kernel_rfl) (allI_cons Tryz.func116 (by kernel_rfl) (allI_cons Tryz.func120 (by kernel_rfl) (allI_cons Tryz.func121 (by kernel_rfl) (allI_cons Tryz.func145 (by kernel_rfl) (allI_cons Tryz.func146 (by kernel_rfl) (allI_cons Tryz.func147 (by kernel_rfl) (allI_cons Tryz.func170 (by kernel_rfl) allI_nil)))))))))) Tryz.func79 (by kernel_rfl) v79
theorem val81 : Valid Tryz.prog GW 81 cFat := mkValid gws Tb.mix Tb.tab_ok Tb.eqs_ok g81 rfl (allV_cons val45 (allV_cons (valFold val143) allV_nil)) (allI_cons Tryz.func68 (by kernel_rfl) (allI_cons Tryz.func80 (by kernel_rfl) (allI_cons Tryz.func107 (by kernel_rfl) (allI_cons Tryz.func116 (by kernel_rfl) (allI_cons Tryz.func120 (by kernel_rfl) (allI_cons Tryz.func121 (by kernel_rfl) (allI_cons Tryz.func145 (by kernel_rfl) (allI_cons Tryz.func146 (by kernel_rfl) (allI_cons Tryz.func147 (by kernel_rfl) (allI_cons Tryz.func170 (by kernel_rfl) allI_nil)))))))))) Tryz.func81 (by kernel_rfl) v81
theorem val82 : Valid Tryz.prog GW 82 cDropOk := mkValid gws Tb.mix Tb.tab_ok Tb.eqs_ok g82 rfl (allV_cons val45 (allV_cons (valFold val143) allV_nil)) (allI_cons Tryz.func68 (by kernel_rfl) (allI_cons Tryz.func80 (by kernel_rfl) (allI_cons Tryz.func107 (by kernel_rfl) (allI_cons Tryz.func116 (by kernel_rfl) (allI_cons Tryz.func120 (by kernel_rfl) (allI_cons Tryz.func121 (by kernel_rfl) (allI_cons Tryz.func145 (by kernel_rfl) (allI_cons Tryz.func146 (by kernel_rfl) (allI_cons Tryz.func147 (by kernel_rfl) (allI_cons Tryz.func170 (by kernel_rfl) allI_nil)))))))))) Tryz.func82 (by kernel_rfl) v82
theorem val36 : Valid Tryz.prog GW 36 cCheck := mkValidK gws Tb.mix Tb.tab_ok Tb.eqs_ok (by kernel_rfl) g36 rfl (allV_cons val79 (allV_cons val81 (allV_cons val82 allV_nil))) (allI_cons Tryz.func60 (by kernel_rfl) (allI_cons Tryz.func83 (by kernel_rfl) (allI_cons Tryz.func84 (by kernel_rfl) (allI_cons Tryz.func85 (by kernel_rfl) (allI_cons Tryz.func86 (by kernel_rfl) (allI_cons Tryz.func87 (by kernel_rfl) (allI_cons Tryz.func88 (by kernel_rfl) (allI_cons Tryz.func89 (by kernel_rfl) (allI_cons Tryz.func104 (by kernel_rfl) (allI_cons Tryz.func122 (by kernel_rfl) (allI_cons Tryz.func123 (by kernel_rfl) (allI_cons Tryz.func124 (by kernel_rfl) (allI_cons Tryz.func125 (by kernel_rfl) (allI_cons Tryz.func126 (by kernel_rfl) (allI_cons Tryz.func127 (by kernel_rfl) (allI_cons Tryz.func148 (by kernel_rfl) allI_nil)))))))))))))))) Tryz.func36 (by kernel_rfl) v36
theorem val27 : Valid Tryz.prog GW 27 cFate := mkValid gws Tb.mix Tb.tab_ok Tb.eqs_ok g27 rfl allV_nil (allI_cons Tryz.func64 (by kernel_rfl) (allI_cons Tryz.func65 (by kernel_rfl) (allI_cons Tryz.func104 (by kernel_rfl) (allI_cons Tryz.func105 (by kernel_rfl) allI_nil)))) Tryz.func27 (by kernel_rfl) v27
end Go.Proofs.YtfhlceooobabcaaGreatDoor.Wd
set_option maxRecDepth 100000
namespace Go.Proofs.YtfhlceooobabcaaGreatDoor.Wn
open Go Go.Eng Go.Lb Go.Ad Wd
/-! sorted names -/
def leN (x y : ByteArray) : Bool := leB (bytesL x) (bytesL y)
def insN (x : ByteArray) : List ByteArray → List ByteArray
  | [] => [x]
  | y :: r => bif leN x y then x :: y :: r else y :: insN x r
def sortN : List ByteArray → List ByteArray
  | [] => []
  | x :: r => insN x (sortN r)
def memN (x : ByteArray) (l : List ByteArray) : Bool := l.any fun y => decide (y = x)
def nubN : List ByteArray → List ByteArray
  | [] => []
  | x :: r => bif memN x r then nubN r else x :: nubN r
def namesL (p : Pl) : List ByteArray := sortN (nubN (p.1.map nameOf))
def mSortS : MCon := { e := 9, t := .str, a := .unit, pre := fun xs _ => xs.length ≤ 1000000000, F := fun xs _ => sortN xs, eats := false }
def lenZ (p : Pl) : Bool := decide (p.1.length ≤ 1000000)
def cNames : Contract := conD (.cons PlanT .unit) (.cons (.sl .str) .unit) (fun x => lenZ x.1) fun x => (namesL x.1, ())
/-- an iterator over a map: what the map holds, which keys are left, how many at most -/
def bMit (vt : Ty) (s : St) (k : Nat) : Box ((ByteArray → Option vt.El) × (ByteArray → Bool) × Nat) := match Go.Eng.look s.env k with
  | .own o => match lookO s.own o with
    | .miter vt' f l n _ => match castF .str vt' .str vt f with
      | some f => ⟨(f, l, n)⟩
      | none => ⟨(fun _ => none, fun _ => false, 0)⟩
    | _ => ⟨(fun _ => none, fun _ => false, 0)⟩
  | _ => ⟨(fun _ => none, fun _ => false, 0)⟩
structure NamI (l : List Zn) (i : Int) (n : Nat) (f : ByteArray → Option Int) : Prop where
  i0 : 0 ≤ i
  i1 : i ≤ l.length
  n : n = i.toNat
  f : ∀ x, (f x).isSome = memN x ((l.take i.toNat).map nameOf)
def namA : LoopAnn where
  α := Int × Nat × (ByteArray → Option Int)
  keep := [2, 9, 10]
  okeep := []
  nxt := 2500
  env := fun _ x => [(11, .dat I64 x.1), (3, .own 2000)]
  own := fun _ x => [(2000, .map 150 .str I64 x.2.1 x.2.2)]
  inv := fun s x => NamI (bDat (.sl ZoneT) s 9).out x.1 x.2.1 x.2.2
  mu := fun s x => List.length (α := Zn) (bDat (.sl ZoneT) s 9).out - x.1.toNat
  pick := some fun _ s => ((bDat I64 s 11).out, (bMap .str I64 s 3).out)
structure NamJ (f : ByteArray → Option Int) (n0 : Nat) (ss : List ByteArray) (left : ByteArray → Bool) (cnt : Nat) : Prop where
  nd : ss.Nodup
  l : ∀ x, left x = true → (f x).isSome = true
  m : ∀ x, (f x).isSome = true → x ∈ ss ∨ left x = true
  s : ∀ x ∈ ss, (f x).isSome = true ∧ left x = false
  n : ss.length + cnt ≤ n0
def namB : LoopAnn where
  α := List ByteArray × (ByteArray → Bool) × Nat
  keep := []
  okeep := []
  nxt := 3500
  env := fun _ x => [(22, .own 3000), (2, .own 3001)]
  own := fun s x => [(3000, .miter I64 (bMit I64 s 22).out.1 x.2.1 x.2.2 none), (3001, .row 9 .str x.1)]
  inv := fun s x => NamJ (bMit I64 s 22).out.1 (bMit I64 s 22).out.2.2 x.1 x.2.1 x.2.2
  mu := fun _ x => x.2.2
  pick := some fun _ s => ((bRow .str s 2).out, (bMit I64 s 22).out.2.1, (bMit I64 s 22).out.2.2)
/-! what a plan answers -/
def zIs (s : ByteArray) (z : Zn) : Bool := decide (z.1 = s)
def ansL (p : Pl) (s : ByteArray) : List (List Ad) := match p.1.find? (zIs s) with
  | some z => z.2.1
  | none => []
def rowAt (l : List (List Ad)) (n : Int) : List Ad := bif decide (l.length = 0) then [] else l.getD (min (max n 0) ((l.length : Int) - 1)).toNat []
def ansR (p : Pl) (s : ByteArray) (n : Int) : List Ad := rowAt (ansL p s) n
def ansE (p : Pl) (s : ByteArray) (n : Int) : Int := bif decide ((ansR p s n).length = 0) then 110 else 0
def rowSz (r : List Ad) : Bool := decide (r.length * 32 ≤ 140737488355328)
def zoSz (z : Zn) : Bool := decide (z.2.1.length ≤ 1000000) && z.2.1.all rowSz
def ansOk (p : Pl) : Bool := decide (p.1.length ≤ 1000000) && p.1.all zoSz
def cAns : Contract := conD (.cons PlanT (.cons .str (.cons I64 .unit))) (.cons AdL (.cons I64 .unit)) (fun x => ansOk x.1) fun x => (ansR x.1 x.2.1 x.2.2.1, (ansE x.1 x.2.1 x.2.2.1, ()))
structure SamI (a b : List Ad) (i : Int) : Prop where
  i0 : 0 ≤ i
  i1 : i ≤ a.length
  l : a.length = b.length
  e : a.take i.toNat = b.take i.toNat
def cSameA : Contract := conD (.cons AdL (.cons AdL .unit)) (.cons .bool .unit) (fun _ => true) fun x => (decide (x.1 = x.2.1), ())
def samA : LoopAnn where
  α := Int
  keep := [0, 1]
  okeep := []
  nxt := 2500
  env := fun _ x => [(5, .dat I64 x)]
  own := fun _ _ => []
  inv := fun s x => SamI (bDat AdL s 0).out (bDat AdL s 1).out x
  mu := fun s x => List.length (α := Ad) (bDat AdL s 0).out - x.toNat
  pick := some fun _ s => (bDat I64 s 5).out
/-! the laws -/
def cWk : Contract := { a := .unit, r := .cons .bool .unit, pre := fun _ => True, F := fun _ => (true, ()) }
def cLw (a : Ty) : Contract := { a := a, r := .cons .bool .unit, pre := fun _ => True, F := fun _ => (true, ()), preB := fun _ => true, preOk := fun _ _ => trivial }
def boxO (s : St) (k : Nat) : Go.Eng.Own := match Go.Eng.look s.env k with
  | .pt o _ => [(o, lookO s.own o)]
  | _ => []
end Go.Proofs.YtfhlceooobabcaaGreatDoor.Wn
namespace Go.Proofs.YtfhlceooobabcaaGreatDoor.Wn
open Go Go.Eng Go.Lb Go.Ad Wd
set_option maxRecDepth 100000
noncomputable def g59 : Cfg := { tab := Tb.tab, cons := [], mcons := [(103, mSortS)], inls := [], loops := [(3, namA), (8, namB)], cuts := [], unroll := false, arrs := [], keys := [] }
noncomputable def g63 : Cfg := { tab := Tb.tab, cons := [], inls := [], loops := [], cuts := [], unroll := false, arrs := [], keys := [] }
noncomputable def g26 : Cfg := { tab := Tb.tab, cons := [], inls := [], loops := [(4, samA)], cuts := [], unroll := false, arrs := [], keys := [] }
noncomputable def g25 : Cfg := { tab := Tb.tab, cons := [(63, (cClone 47 32 AdT))], inls := [(60, Tryz.f60), (61, Tryz.f61), (62, Tryz.f62)], loops := [(610002, idxL 3000 ZoneT fun s => zIs (capDat .str s 1).out)], cuts := [], unroll := false, arrs := [], keys := [] }
end Go.Proofs.YtfhlceooobabcaaGreatDoor.Wn
namespace Go.Proofs.YtfhlceooobabcaaGreatDoor.Wn
open Go Go.Eng Go.Lb Go.Ad Wd
set_option maxRecDepth 100000
theorem v59_eq : vcFn g59 300 Tryz.f59 cNames = ( ∀ (x : (List (ByteArray × List (List (Int × (Int × Int × Int × Int × Int × Int × Int × Int × Unit) × Int × Unit)) × Unit) × List ((Int × (Int × Int × Int × Int × Int × Int × Int × Int × Unit) × Int × Unit) × List Int ×
  Unit) × Int × List Int × Unit) × Unit), Wr (lenZ x.fst = Bool.true) → (Wr (NamI x.fst.fst (0 : Int) (0 : Nat) fun (x : ByteArray) => noneO Int) ∧ Wr ((0 : Int) = (0 : Int)) ∧ Wr (x.fst.fst = x.fst.fst) ∧ Wr
  ((↑(List.length x.fst.fst) : Int) = (↑(List.length x.fst.fst) : Int)) ∧ Wr ((0 : Nat) ≤ (0 : Nat)) ∧ Wr ((fun (x : ByteArray) => noneO Int) = fun (x : ByteArray) => noneO Int)) ∧ ∀ (x_1 : Int × Nat × (ByteArray → Option
  Int)), Wr (NamI x.fst.fst x_1.fst x_1.snd.fst x_1.snd.snd) → bcase (Decidable.decide (x_1.fst < (↑(List.length x.fst.fst) : Int))) (Wr ((0 : Int) ≤ x_1.fst) ∧ Wr (x_1.fst < (↑(List.length x.fst.fst) : Int)) ∧ Wr
  (Bool.true = Bool.true) ∧ Wr (x_1.snd.fst < Go.maxLen) ∧ Wr (NamI x.fst.fst (IntKind.wrap IntKind.i64 (x_1.fst + (1 : Int))) (x_1.snd.fst + (1 : Nat)) (updF Ty.str Go.Proofs.YtfhlceooobabcaaGreatDoor.Wd.I64 x_1.snd.snd
  (List.getD x.fst.fst (Int.toNat x_1.fst) (Ty.zero Go.Proofs.YtfhlceooobabcaaGreatDoor.Wd.ZoneT)).fst (IntKind.wrap IntKind.i64 (Option.getD (x_1.snd.snd (List.getD x.fst.fst (Int.toNat x_1.fst) (Ty.zero
  Go.Proofs.YtfhlceooobabcaaGreatDoor.Wd.ZoneT)).fst) (0 : Int) + (1 : Int))))) ∧ Wr (List.length x.fst.fst - Int.toNat (IntKind.wrap IntKind.i64 (x_1.fst + (1 : Int))) < List.length x.fst.fst - Int.toNat x_1.fst) ∧ Wr
  (IntKind.wrap IntKind.i64 (x_1.fst + (1 : Int)) = IntKind.wrap IntKind.i64 (x_1.fst + (1 : Int))) ∧ Wr (x.fst.fst = x.fst.fst) ∧ Wr ((↑(List.length x.fst.fst) : Int) = (↑(List.length x.fst.fst) : Int)) ∧ Wr (x_1.snd.fst
  + (1 : Nat) ≤ x_1.snd.fst + (1 : Nat)) ∧ Wr (updF Ty.str Go.Proofs.YtfhlceooobabcaaGreatDoor.Wd.I64 x_1.snd.snd (List.getD x.fst.fst (Int.toNat x_1.fst) (Ty.zero Go.Proofs.YtfhlceooobabcaaGreatDoor.Wd.ZoneT)).fst
  (IntKind.wrap IntKind.i64 (Option.getD (x_1.snd.snd (List.getD x.fst.fst (Int.toNat x_1.fst) (Ty.zero Go.Proofs.YtfhlceooobabcaaGreatDoor.Wd.ZoneT)).fst) (0 : Int) + (1 : Int))) = updF Ty.str
  Go.Proofs.YtfhlceooobabcaaGreatDoor.Wd.I64 x_1.snd.snd (List.getD x.fst.fst (Int.toNat x_1.fst) (Ty.zero Go.Proofs.YtfhlceooobabcaaGreatDoor.Wd.ZoneT)).fst (IntKind.wrap IntKind.i64 (Option.getD (x_1.snd.snd (List.getD
  x.fst.fst (Int.toNat x_1.fst) (Ty.zero Go.Proofs.YtfhlceooobabcaaGreatDoor.Wd.ZoneT)).fst) (0 : Int) + (1 : Int))))) ((Wr (NamJ x_1.snd.snd x_1.snd.fst (nilL ByteArray) (fun (s : ByteArray) => Option.isSome (x_1.snd.snd
  s)) x_1.snd.fst) ∧ Wr (x_1.snd.snd = x_1.snd.snd) ∧ Wr ((fun (s : ByteArray) => Option.isSome (x_1.snd.snd s)) = fun (s : ByteArray) => Option.isSome (x_1.snd.snd s)) ∧ Wr (x_1.snd.fst = x_1.snd.fst) ∧ Wr (nilL
  ByteArray = nilL ByteArray)) ∧ ∀ (x_2 : List ByteArray × (ByteArray → Bool) × Nat), Wr (NamJ x_1.snd.snd x_1.snd.fst x_2.fst x_2.snd.fst x_2.snd.snd) → (∀ (s : ByteArray) (y : Int) (m : Nat), Wr (x_2.snd.fst s =
  Bool.true ∧ x_1.snd.snd s = Option.some y ∧ m < x_2.snd.snd) → Wr ((List.length x_2.fst + List.length (s :: nilL ByteArray)) * (16 : Nat) ≤ (140737488355328 : Nat)) ∧ Wr (NamJ x_1.snd.snd x_1.snd.fst (x_2.fst ++ s ::
  nilL ByteArray) (fun (x : ByteArray) => x_2.snd.fst x && !Decidable.decide (x = s)) m) ∧ Wr (m < x_2.snd.snd) ∧ Wr (x_1.snd.snd = x_1.snd.snd) ∧ Wr ((fun (x : ByteArray) => x_2.snd.fst x && !Decidable.decide (x = s)) =
  fun (x : ByteArray) => x_2.snd.fst x && !Decidable.decide (x = s)) ∧ Wr (m = m) ∧ Wr (x_2.fst ++ s :: nilL ByteArray = x_2.fst ++ s :: nilL ByteArray)) ∧ (Wr (∀ (s : ByteArray), x_2.snd.fst s = Bool.false) → Wr
  (List.length x_2.fst ≤ (1000000000 : Nat)) ∧ (sortN x_2.fst, ()) = (namesL x.fst, ())))) := by kernel_rfl
theorem v63_eq : vcFn g63 300 Tryz.f63 ((cClone 47 32 AdT)) = ( ∀ (x : List (Int × (Int × Int × Int × Int × Int × Int × Int × Int × Unit) × Int × Unit) × Unit), Wr (Decidable.decide (List.length x.fst * (32 : Nat) ≤ (140737488355328 : Nat)) = Bool.true) → ∀ (b : Bool), Wr (b =
  Bool.true → x.fst = nilL (Int × (Int × Int × Int × Int × Int × Int × Int × Int × Unit) × Int × Unit)) → bcase b (x.fst = nilL (Int × (Int × Int × Int × Int × Int × Int × Int × Int × Unit) × Int × Unit)) (Wr
  ((List.length (nilL (Int × (Int × Int × Int × Int × Int × Int × Int × Int × Unit) × Int × Unit)) + List.length x.fst) * (32 : Nat) ≤ (140737488355328 : Nat)) ∧ nilL (Int × (Int × Int × Int × Int × Int × Int × Int × Int
  × Unit) × Int × Unit) ++ x.fst = x.fst)) := by kernel_rfl
theorem v26_eq : vcFn g26 300 Tryz.f26 cSameA.T = ( ∀ (x : List (Int × (Int × Int × Int × Int × Int × Int × Int × Int × Unit) × Int × Unit) × List (Int × (Int × Int × Int × Int × Int × Int × Int × Int × Unit) × Int × Unit) × Unit), Wr (typedB (Ty.cons
  Go.Proofs.YtfhlceooobabcaaGreatDoor.Wd.AdL (Ty.cons Go.Proofs.YtfhlceooobabcaaGreatDoor.Wd.AdL Ty.unit)) x = Bool.true ∧ Bool.true = Bool.true) → bcase (!Decidable.decide ((↑(List.length x.fst) : Int) = (↑(List.length
  x.snd.fst) : Int))) ((Bool.false, ()) = (Decidable.decide (x.fst = x.snd.fst), ())) ((Wr (SamI x.fst x.snd.fst (0 : Int)) ∧ Wr ((0 : Int) = (0 : Int)) ∧ Wr (x.fst = x.fst) ∧ Wr (x.snd.fst = x.snd.fst)) ∧ ∀ (x_1 : Int),
  Wr (SamI x.fst x.snd.fst x_1) → bcase (Decidable.decide (x_1 < (↑(List.length x.fst) : Int))) (Wr ((0 : Int) ≤ x_1) ∧ Wr (x_1 < (↑(List.length x.fst) : Int)) ∧ Wr (Bool.true = Bool.true) ∧ Wr ((0 : Int) ≤ x_1) ∧ Wr (x_1
  < (↑(List.length x.snd.fst) : Int)) ∧ Wr (Bool.true = Bool.true) ∧ bcase (!Ty.eqb (Ty.cons (Ty.int IntKind.i8) (Ty.cons (Ty.arr (8 : Nat) (Ty.int IntKind.u16)) (Ty.cons (Ty.int IntKind.i64) Ty.unit))) (List.getD x.fst
  (Int.toNat x_1) (Ty.zero Go.Proofs.YtfhlceooobabcaaGreatDoor.Wd.AdT)) (List.getD x.snd.fst (Int.toNat x_1) (Ty.zero Go.Proofs.YtfhlceooobabcaaGreatDoor.Wd.AdT))) ((Bool.false, ()) = (Decidable.decide (x.fst =
  x.snd.fst), ())) (Wr (SamI x.fst x.snd.fst (IntKind.wrap IntKind.i64 (x_1 + (1 : Int)))) ∧ Wr (List.length x.fst - Int.toNat (IntKind.wrap IntKind.i64 (x_1 + (1 : Int))) < List.length x.fst - Int.toNat x_1) ∧ Wr
  (IntKind.wrap IntKind.i64 (x_1 + (1 : Int)) = IntKind.wrap IntKind.i64 (x_1 + (1 : Int))) ∧ Wr (x.fst = x.fst) ∧ Wr (x.snd.fst = x.snd.fst))) ((Bool.true, ()) = (Decidable.decide (x.fst = x.snd.fst), ())))) := by kernel_rfl
theorem v25_eq : vcFn g25 300 Tryz.f25 cAns = ( ∀ (x : (List (ByteArray × List (List (Int × (Int × Int × Int × Int × Int × Int × Int × Int × Unit) × Int × Unit)) × Unit) × List ((Int × (Int × Int × Int × Int × Int × Int × Int × Int × Unit) × Int × Unit) × List Int ×
  Unit) × Int × List Int × Unit) × ByteArray × Int × Unit), Wr (ansOk x.fst = Bool.true) → (Wr (Go.Proofs.YtfhlceooobabcaaGreatDoor.Wd.IdxI (zIs x.snd.fst) x.fst.fst (0 : Int)) ∧ Wr ((0 : Int) = (0 : Int)) ∧ Wr (x.fst.fst
  = x.fst.fst) ∧ Wr (x.fst.fst = x.fst.fst) ∧ Wr ((↑(List.length x.fst.fst) : Int) = (↑(List.length x.fst.fst) : Int)) ∧ Wr (x.snd.fst = x.snd.fst) ∧ Wr (x.fst.fst = x.fst.fst) ∧ Wr (x.fst.snd.fst = x.fst.snd.fst) ∧ Wr
  (x.fst.snd.snd.fst = x.fst.snd.snd.fst) ∧ Wr (x.fst.snd.snd.snd.fst = x.fst.snd.snd.snd.fst)) ∧ ∀ (x_1 : Int), Wr (Go.Proofs.YtfhlceooobabcaaGreatDoor.Wd.IdxI (zIs x.snd.fst) x.fst.fst x_1) → bcase (Decidable.decide
  (x_1 < (↑(List.length x.fst.fst) : Int))) (Wr ((0 : Int) ≤ x_1) ∧ Wr (x_1 < (↑(List.length x.fst.fst) : Int)) ∧ Wr (Bool.true = Bool.true) ∧ bcase (Decidable.decide ((List.getD x.fst.fst (Int.toNat x_1) (Ty.zero
  Go.Proofs.YtfhlceooobabcaaGreatDoor.Wd.ZoneT)).fst = x.snd.fst)) (bcase (Decidable.decide (x_1 < (0 : Int))) ((nilL (Int × (Int × Int × Int × Int × Int × Int × Int × Int × Unit) × Int × Unit), (110 : Int), ()) = (ansR
  x.fst x.snd.fst x.snd.snd.fst, ansE x.fst x.snd.fst x.snd.snd.fst, ())) (Wr ((0 : Int) ≤ x_1) ∧ Wr (x_1 < (↑(List.length x.fst.fst) : Int)) ∧ Wr (Bool.true = Bool.true) ∧ Wr (Bool.true = Bool.true) ∧ bcase
  (Decidable.decide ((↑(List.length (List.getD x.fst.fst (Int.toNat x_1) (Ty.zero Go.Proofs.YtfhlceooobabcaaGreatDoor.Wd.ZoneT)).snd.fst) : Int) = (0 : Int))) ((nilL (Int × (Int × Int × Int × Int × Int × Int × Int × Int ×
  Unit) × Int × Unit), (110 : Int), ()) = (ansR x.fst x.snd.fst x.snd.snd.fst, ansE x.fst x.snd.fst x.snd.snd.fst, ())) (Wr ((0 : Int) ≤ Min.min (Max.max x.snd.snd.fst (0 : Int)) (IntKind.wrap IntKind.i64 ((↑(List.length
  (List.getD x.fst.fst (Int.toNat x_1) (Ty.zero Go.Proofs.YtfhlceooobabcaaGreatDoor.Wd.ZoneT)).snd.fst) : Int) - (1 : Int)))) ∧ Wr (Min.min (Max.max x.snd.snd.fst (0 : Int)) (IntKind.wrap IntKind.i64 ((↑(List.length
  (List.getD x.fst.fst (Int.toNat x_1) (Ty.zero Go.Proofs.YtfhlceooobabcaaGreatDoor.Wd.ZoneT)).snd.fst) : Int) - (1 : Int))) < (↑(List.length (List.getD x.fst.fst (Int.toNat x_1) (Ty.zero
  Go.Proofs.YtfhlceooobabcaaGreatDoor.Wd.ZoneT)).snd.fst) : Int)) ∧ Wr (Bool.true = Bool.true) ∧ bcase (!Bool.true || Decidable.decide ((↑(List.length (List.getD (List.getD x.fst.fst (Int.toNat x_1) (Ty.zero
  Go.Proofs.YtfhlceooobabcaaGreatDoor.Wd.ZoneT)).snd.fst (Int.toNat (Min.min (Max.max x.snd.snd.fst (0 : Int)) (IntKind.wrap IntKind.i64 ((↑(List.length (List.getD x.fst.fst (Int.toNat x_1) (Ty.zero
  Go.Proofs.YtfhlceooobabcaaGreatDoor.Wd.ZoneT)).snd.fst) : Int) - (1 : Int))))) (Ty.zero Go.Proofs.YtfhlceooobabcaaGreatDoor.Wd.AdL))) : Int) = (0 : Int))) ((nilL (Int × (Int × Int × Int × Int × Int × Int × Int × Int ×
  Unit) × Int × Unit), (110 : Int), ()) = (ansR x.fst x.snd.fst x.snd.snd.fst, ansE x.fst x.snd.fst x.snd.snd.fst, ())) (Wr (Decidable.decide (List.length (List.getD (List.getD x.fst.fst (Int.toNat x_1) (Ty.zero
  Go.Proofs.YtfhlceooobabcaaGreatDoor.Wd.ZoneT)).snd.fst (Int.toNat (Min.min (Max.max x.snd.snd.fst (0 : Int)) (IntKind.wrap IntKind.i64 ((↑(List.length (List.getD x.fst.fst (Int.toNat x_1) (Ty.zero
  Go.Proofs.YtfhlceooobabcaaGreatDoor.Wd.ZoneT)).snd.fst) : Int) - (1 : Int))))) (Ty.zero Go.Proofs.YtfhlceooobabcaaGreatDoor.Wd.AdL)) * (32 : Nat) ≤ (140737488355328 : Nat)) = Bool.true) ∧ (List.getD (List.getD x.fst.fst
  (Int.toNat x_1) (Ty.zero Go.Proofs.YtfhlceooobabcaaGreatDoor.Wd.ZoneT)).snd.fst (Int.toNat (Min.min (Max.max x.snd.snd.fst (0 : Int)) (IntKind.wrap IntKind.i64 ((↑(List.length (List.getD x.fst.fst (Int.toNat x_1)
  (Ty.zero Go.Proofs.YtfhlceooobabcaaGreatDoor.Wd.ZoneT)).snd.fst) : Int) - (1 : Int))))) (Ty.zero Go.Proofs.YtfhlceooobabcaaGreatDoor.Wd.AdL), (0 : Int), ()) = (ansR x.fst x.snd.fst x.snd.snd.fst, ansE x.fst x.snd.fst
  x.snd.snd.fst, ()))))) (Wr (Go.Proofs.YtfhlceooobabcaaGreatDoor.Wd.IdxI (zIs x.snd.fst) x.fst.fst (IntKind.wrap IntKind.i64 (x_1 + (1 : Int)))) ∧ Wr (List.length x.fst.fst - Int.toNat (IntKind.wrap IntKind.i64 (x_1 + (1
  : Int))) < List.length x.fst.fst - Int.toNat x_1) ∧ Wr (IntKind.wrap IntKind.i64 (x_1 + (1 : Int)) = IntKind.wrap IntKind.i64 (x_1 + (1 : Int))) ∧ Wr (x.fst.fst = x.fst.fst) ∧ Wr (x.fst.fst = x.fst.fst) ∧ Wr
  ((↑(List.length x.fst.fst) : Int) = (↑(List.length x.fst.fst) : Int)) ∧ Wr (x.snd.fst = x.snd.fst) ∧ Wr (x.fst.fst = x.fst.fst) ∧ Wr (x.fst.snd.fst = x.fst.snd.fst) ∧ Wr (x.fst.snd.snd.fst = x.fst.snd.snd.fst) ∧ Wr
  (x.fst.snd.snd.snd.fst = x.fst.snd.snd.snd.fst))) ((nilL (Int × (Int × Int × Int × Int × Int × Int × Int × Int × Unit) × Int × Unit), (110 : Int), ()) = (ansR x.fst x.snd.fst x.snd.snd.fst, ansE x.fst x.snd.fst
  x.snd.snd.fst, ()))) := by kernel_rfl
end Go.Proofs.YtfhlceooobabcaaGreatDoor.Wn
set_option linter.all false
set_option maxRecDepth 100000
namespace Go.Proofs.YtfhlceooobabcaaGreatDoor.Wn
open Go Go.Eng Go.Lb Go.Ad Wd
/-! sorted names -/
theorem bytes_inj {x y : ByteArray} (h : bytesL x = bytesL y) : x = y := by
  cases x; cases y
  simp only [bytesL] at h
  rw [Array.toList_inj.1 h]
theorem leN_total (x y : ByteArray) : leN x y = true ∨ leN y x = true := by
  simp only [leN, leB, decide_eq_true_eq]
  exact List.le_total _ _
theorem leN_trans {x y z : ByteArray} (h1 : leN x y = true) (h2 : leN y z = true) : leN x z = true := by
  simp only [leN, leB, decide_eq_true_eq] at *
  exact List.le_trans h1 h2
theorem insN_perm (x : ByteArray) : ∀ l : List ByteArray, (insN x l).Perm (x :: l)
  | [] => List.Perm.refl _
  | y :: r => by
    unfold insN
    cases h : leN x y with
    | true => exact List.Perm.refl _
    | false => exact ((insN_perm x r).cons y).trans (List.Perm.swap x y r)
theorem sortN_perm : ∀ l : List ByteArray, (sortN l).Perm l
  | [] => List.Perm.refl _
  | x :: r => (insN_perm x (sortN r)).trans ((sortN_perm r).cons x)
theorem insN_sorted (x : ByteArray) : ∀ l : List ByteArray, l.Pairwise (fun a b => leN a b = true) → (insN x l).Pairwise (fun a b => leN a b = true)
  | [], _ => List.pairwise_singleton _ _
  | y :: r, h => by
    obtain ⟨h1, h2⟩ := List.pairwise_cons.1 h
    unfold insN
    cases hl : leN x y with
    | true =>
      refine List.pairwise_cons.2 ⟨fun z hz => ?_, h⟩
      rcases List.mem_cons.1 hz with rfl | hz
      · exact hl
      · exact leN_trans hl (h1 z hz)
    | false =>
      refine List.pairwise_cons.2 ⟨fun z hz => ?_, insN_sorted x r h2⟩
      rcases List.mem_cons.1 ((insN_perm x r).mem_iff.1 hz) with rfl | hz
      · rcases leN_total z y with h | h
        · rw [h] at hl; cases hl
        · exact h
      · exact h1 z hz
theorem sortN_sorted : ∀ l : List ByteArray, (sortN l).Pairwise (fun a b => leN a b = true)
  | [] => List.Pairwise.nil
  | x :: r => insN_sorted x _ (sortN_sorted r)
theorem sortN_bytes (l : List ByteArray) : (sortN l).map bytesL = (l.map bytesL).mergeSort leB := by
  have tr : ∀ a b c : List UInt8, leB a b = true → leB b c = true → leB a c = true := fun a b c h1 h2 => by simp only [leB, decide_eq_true_eq] at *; exact List.le_trans h1 h2
  have tot : ∀ a b : List UInt8, (leB a b || leB b a) = true := fun a b => by simp only [leB, Bool.or_eq_true, decide_eq_true_eq]; exact List.le_total a b
  refine List.Perm.eq_of_pairwise (le := fun a b => leB a b = true) (fun a b _ _ h1 h2 => ?_) (List.pairwise_map.2 (sortN_sorted l)) (List.pairwise_mergeSort tr tot _) (((sortN_perm l).map bytesL).trans (List.mergeSort_perm _ leB).symm)
  simp only [leB, decide_eq_true_eq] at h1 h2
  exact List.le_antisymm h1 h2
theorem map_bytes_inj : ∀ {l l' : List ByteArray}, l.map bytesL = l'.map bytesL → l = l'
  | [], [], _ => rfl
  | [], _ :: _, h => by cases h
  | _ :: _, [], h => by cases h
  | x :: r, y :: r', h => by
    simp only [List.map_cons, List.cons.injEq] at h
    rw [bytes_inj h.1, map_bytes_inj h.2]
theorem sortN_of_perm {l l' : List ByteArray} (h : l.Perm l') : sortN l = sortN l' :=
  map_bytes_inj (by rw [sortN_bytes, sortN_bytes]; exact mergeSort_of_perm (h.map bytesL))
theorem sortN_length (l : List ByteArray) : (sortN l).length = l.length := (sortN_perm l).length_eq
theorem memN_iff {x : ByteArray} {l : List ByteArray} : memN x l = true ↔ x ∈ l := by
  simp [memN, List.any_eq_true]
theorem nubN_mem {x : ByteArray} : ∀ {l : List ByteArray}, x ∈ nubN l ↔ x ∈ l
  | [] => Iff.rfl
  | y :: r => by
    unfold nubN
    cases h : memN y r with
    | true =>
      rw [show (bif true then nubN r else y :: nubN r) = nubN r from rfl, nubN_mem, List.mem_cons]
      exact ⟨.inr, fun h' => h'.elim (fun e => e ▸ memN_iff.1 h) id⟩
    | false =>
      rw [show (bif false then nubN r else y :: nubN r) = y :: nubN r from rfl, List.mem_cons, List.mem_cons, nubN_mem]
theorem nubN_nodup : ∀ l : List ByteArray, (nubN l).Nodup
  | [] => List.nodup_nil
  | y :: r => by
    unfold nubN
    cases h : memN y r with
    | true => exact nubN_nodup r
    | false =>
      refine List.nodup_cons.2 ⟨fun hm => ?_, nubN_nodup r⟩
      rw [memN_iff.2 (nubN_mem.1 hm)] at h
      cases h
theorem names_of {p : Pl} {ss : List ByteArray} (hn : ss.Nodup) (hm : ∀ x, x ∈ ss ↔ x ∈ p.1.map nameOf) : sortN ss = namesL p :=
  sortN_of_perm ((List.perm_ext_iff_of_nodup hn (nubN_nodup _)).2 fun x => (hm x).trans nubN_mem.symm)
theorem names_mem {p : Pl} {x : ByteArray} : x ∈ namesL p ↔ x ∈ p.1.map nameOf := (sortN_perm _).mem_iff.trans nubN_mem
theorem names_nodup (p : Pl) : (namesL p).Nodup := (sortN_perm _).nodup_iff.2 (nubN_nodup _)
theorem nubN_of_nodup : ∀ {l : List ByteArray}, l.Nodup → nubN l = l
  | [], _ => rfl
  | y :: r, h => by
    obtain ⟨h1, h2⟩ := List.nodup_cons.1 h
    unfold nubN
    have : memN y r = false := by
      cases hm : memN y r with
      | false => rfl
      | true => exact absurd (memN_iff.1 hm) h1
    rw [this, nubN_of_nodup h2]; rfl
/-! the loops -/
theorem NamI.zero (l : List Zn) : NamI l 0 0 (fun _ => none) := ⟨by omega, by omega, rfl, fun x => rfl⟩
theorem NamI.on {l : List Zn} {i : Int} {n : Nat} {f : ByteArray → Option Int} {v : Int} (h : NamI l i n f) (hl : l.length ≤ 1000000) (hi : i < l.length) :
    NamI l (IntKind.wrap .i64 (i + 1)) (n + 1) (updF .str I64 f (l.getD i.toNat ZoneT.zero).1 v) ∧ l.length - (IntKind.wrap .i64 (i + 1)).toNat < l.length - i.toNat := by
  have h0 := h.i0
  have e : IntKind.wrap .i64 (i + 1) = i + 1 := w64 (by omega) (by omega)
  rw [e]
  refine ⟨⟨by omega, by omega, by rw [h.n]; omega, fun x => ?_⟩, by omega⟩
  rw [take_succ l i ZoneT.zero h0 hi, List.map_append]
  have e2 : memN x (List.map nameOf (l.take i.toNat) ++ List.map nameOf [l.getD i.toNat ZoneT.zero]) = (memN x (List.map nameOf (l.take i.toNat)) || decide ((l.getD i.toNat ZoneT.zero).1 = x)) := by
    simp [memN, nameOf, List.any_append]
  rw [e2, ← h.f x]
  show (bif Ty.eqb .str x (l.getD i.toNat ZoneT.zero).1 then some v else f x).isSome = _
  have e3 : Ty.eqb .str x (l.getD i.toNat ZoneT.zero).1 = decide (x = (l.getD i.toNat ZoneT.zero).1) := rfl
  rw [e3]
  by_cases hx : x = (l.getD i.toNat ZoneT.zero).1
  · rw [decide_eq_true hx, decide_eq_true hx.symm]; simp
  · rw [decide_eq_false hx, decide_eq_false (fun e => hx e.symm)]; simp
theorem NamJ.start {f : ByteArray → Option Int} {n0 : Nat} : NamJ f n0 [] (fun s => (f s).isSome) n0 :=
  ⟨List.nodup_nil, fun _ h => h, fun _ h => .inr h, fun x hx => (by cases hx), (by simp)⟩
theorem NamJ.on {f : ByteArray → Option Int} {n0 : Nat} {ss : List ByteArray} {left : ByteArray → Bool} {cnt m : Nat} {s : ByteArray} (h : NamJ f n0 ss left cnt) (hs : left s = true) (hm : m < cnt) :
    NamJ f n0 (ss ++ [s]) (fun x => left x && !decide (x = s)) m := by
  refine ⟨?_, fun x hx => ?_, fun x hx => ?_, fun x hx => ?_, ?_⟩
  · rw [List.nodup_append]
    refine ⟨h.nd, List.nodup_cons.2 ⟨List.not_mem_nil, List.nodup_nil⟩, fun a ha b hb e => ?_⟩
    rw [List.mem_singleton] at hb
    subst hb
    subst e
    rw [(h.s a ha).2] at hs; cases hs
  · simp only [Bool.and_eq_true] at hx
    exact h.l x hx.1
  · rcases h.m x hx with h1 | h1
    · exact .inl (List.mem_append_left _ h1)
    · by_cases e : x = s
      · exact .inl (List.mem_append_right _ (List.mem_singleton.2 e))
      · exact .inr (by simp [h1, e])
  · rcases List.mem_append.1 hx with h1 | h1
    · exact ⟨(h.s x h1).1, by simp [(h.s x h1).2]⟩
    · rw [List.mem_singleton] at h1
      subst h1
      exact ⟨h.l x hs, by simp⟩
  · have := h.n
    rw [List.length_append, List.length_singleton]
    omega
theorem NamJ.fin {p : Pl} {i : Int} {n n0 : Nat} {f : ByteArray → Option Int} {ss : List ByteArray} {left : ByteArray → Bool} {cnt : Nat} (h : NamJ f n0 ss left cnt) (hI : NamI p.1 i n f) (hi : ¬ i < p.1.length) (hno : ∀ s, left s = false) : sortN ss = namesL p := by
  have h1 := hI.i1
  have e : p.1.take i.toNat = p.1 := List.take_of_length_le (by omega)
  refine names_of h.nd fun x => ?_
  rw [← memN_iff (l := p.1.map nameOf)]
  have := hI.f x
  rw [e] at this
  rw [← this]
  constructor
  · intro hx; exact (h.s x hx).1
  · intro hx
    rcases h.m x hx with h2 | h2
    · exact h2
    · rw [hno x] at h2; cases h2
end Go.Proofs.YtfhlceooobabcaaGreatDoor.Wn
/-
  DERIVED: THE SHELF's CONTRACTS AT THIS DUMP, IN PLAIN WORDS (tools/lay-plain.mjs out of 'ZnSh4.lean', which tools/lay-shelf.mjs wrote): THE SAME DECLARATIONS UNDER THE SAME NAMES: 'import', 'namespace', 'open', 'def', 'theorem' AND NOTHING ELSE: no command of the shelf's: FOR A HAND-IN. Each laying: the table of numbers ('.._ren') and one theorem, a field a fact of the dump's own or the kernel's comparison; each contract: ONE APPLICATION.
-/
namespace Go.Proofs
open Go.Shelf
def Tryz.lays190_ren : Go.Shelf.Ren := ⟨fun | 190 => 103 | 125 => 134 | 258 => 133 | 128 => 161 | 129 => 162 | 302 => 152 | 303 => 153 | 304 => 154 | 305 => 155 | 306 => 156 | 307 => 157 | 308 => 158 | 309 => 159 | 310 => 160 | 333 => 173 | 329 => 174 | 330 => 175 | 334 => 176 | 335 => 177 | 336 => 178 | 344 => 185 | n => n, fun | 31 => 113 | 9 => 9 | 3 => 3 | 46 => 173 | 0 => 0 | 51 => 206 | 53 => 208 | 4 => 4 | 183 => 198 | 182 => 197 | 131 => 203 | 5 => 5 | 218 => 215 | 222 => 219 | 228 => 225 | 229 => 176 | n => n, fun | n => n⟩
theorem Tryz.lays190 : Go.Proofs.Lays.n190 Tryz.prog Tryz.lays190_ren := {
  mixed := by kernel_rfl
  f125 := Tryz.func134.trans (congrArg some (by kernel_rfl))
  f128 := Tryz.func161.trans (congrArg some (by kernel_rfl))
  f129 := Tryz.func162.trans (congrArg some (by kernel_rfl))
  f190 := Tryz.func103.trans (congrArg some (by kernel_rfl))
  f258 := Tryz.func133.trans (congrArg some (by kernel_rfl))
  f302 := Tryz.func152.trans (congrArg some (by kernel_rfl))
  f303 := Tryz.func153.trans (congrArg some (by kernel_rfl))
  f304 := Tryz.func154.trans (congrArg some (by kernel_rfl))
  f305 := Tryz.func155.trans (congrArg some (by kernel_rfl))
  f306 := Tryz.func156.trans (congrArg some (by kernel_rfl))
  f307 := Tryz.func157.trans (congrArg some (by kernel_rfl))
  f308 := Tryz.func158.trans (congrArg some (by kernel_rfl))
  f309 := Tryz.func159.trans (congrArg some (by kernel_rfl))
  f310 := Tryz.func160.trans (congrArg some (by kernel_rfl))
  f329 := Tryz.func174.trans (congrArg some (by kernel_rfl))
  f330 := Tryz.func175.trans (congrArg some (by kernel_rfl))
  f333 := Tryz.func173.trans (congrArg some (by kernel_rfl))
  f334 := Tryz.func176.trans (congrArg some (by kernel_rfl))
  f335 := Tryz.func177.trans (congrArg some (by kernel_rfl))
  f336 := Tryz.func178.trans (congrArg some (by kernel_rfl))
  f344 := Tryz.func185.trans (congrArg some (by kernel_rfl))
  t0 := Tryz.underlying0
  a0 := Tryz.isAgg0
  z0 := Tryz.sizeOf0
  v0 := Tryz.zeroValue0
  t3 := Tryz.underlying3
  a3 := Tryz.isAgg3
  z3 := Tryz.sizeOf3
  v3 := Tryz.zeroValue3
  t4 := Tryz.underlying4
  a4 := Tryz.isAgg4
  z4 := Tryz.sizeOf4
  v4 := Tryz.zeroValue4
  t5 := Tryz.underlying5
  a5 := Tryz.isAgg5
  z5 := Tryz.sizeOf5
  v5 := Tryz.zeroValue5
  t9 := Tryz.underlying9
  a9 := Tryz.isAgg9
  z9 := Tryz.sizeOf9
  v9 := Tryz.zeroValue9
  t31 := Tryz.underlying113
  a31 := Tryz.isAgg113
  z31 := Tryz.sizeOf113
  v31 := Tryz.zeroValue113
  t46 := Tryz.underlying173
  a46 := Tryz.isAgg173
  z46 := Tryz.sizeOf173
  v46 := Tryz.zeroValue173
  t51 := Tryz.underlying206
  a51 := Tryz.isAgg206
  z51 := Tryz.sizeOf206
  v51 := Tryz.zeroValue206
  t53 := Tryz.underlying208
  a53 := Tryz.isAgg208
  z53 := Tryz.sizeOf208
  v53 := Tryz.zeroValue208
  t131 := Tryz.underlying203
  a131 := Tryz.isAgg203
  z131 := Tryz.sizeOf203
  v131 := Tryz.zeroValue203
  t182 := Tryz.underlying197
  a182 := Tryz.isAgg197
  z182 := Tryz.sizeOf197
  v182 := Tryz.zeroValue197
  t183 := Tryz.underlying198
  a183 := Tryz.isAgg198
  z183 := Tryz.sizeOf198
  v183 := Tryz.zeroValue198
  t218 := Tryz.underlying215
  a218 := Tryz.isAgg215
  z218 := Tryz.sizeOf215
  v218 := Tryz.zeroValue215
  t222 := Tryz.underlying219
  a222 := Tryz.isAgg219
  z222 := Tryz.sizeOf219
  v222 := Tryz.zeroValue219
  t228 := Tryz.underlying225
  a228 := Tryz.isAgg225
  z228 := Tryz.sizeOf225
  v228 := Tryz.zeroValue225
  t229 := Tryz.underlying176
  a229 := Tryz.isAgg176
  z229 := Tryz.sizeOf176
  v229 := Tryz.zeroValue176 }
open Go.Sort Go.RowKit in
theorem Tryz.slices_Sort_string (blk off cap : Nat) (ss : List (List UInt8)) (w : World) (hH : Holds encStr w blk off ss.toArray) (hblk : blk < w.heap.size) (hsz : ss.length < 4611686018427387904) :
    Calls Tryz.prog 103 #[.slice (some ⟨blk, off, none⟩) ss.length cap] w fun e w' =>
      e = .returned (.tuple #[]) ∧ ∃ n os, w' = grow (putRow encStr (Sort.ahead w n) blk off (ss.mergeSort fun x y => decide (x ≤ y)).toArray) os := Any.slices_Sort_string Tryz.lays190 blk off cap ss w hH hblk hsz
open Go.RowKit Go.Sort in
/-- .. and plain. (LAID: no walk: one application.) -/
theorem Tryz.slices_Sort_string_none (p : Option Addr) (cap : Nat) (w : World) :
    Calls Tryz.prog 103 #[.slice p 0 cap] w fun e w' => e = .returned (.tuple #[]) ∧ w' = w := Any.slices_Sort_string_none Tryz.lays190 p cap w
end Go.Proofs
set_option linter.all false
set_option maxRecDepth 100000
namespace Go.Proofs.YtfhlceooobabcaaGreatDoor.Wn
open Go Go.Eng Go.Lb Go.Ad Wd Go.Proofs Go.Sort
theorem bytes_size (x : ByteArray) : (bytesL x).length = x.size := by cases x; rfl
theorem enc_bytes (x : ByteArray) : encStr (bytesL x) = .string x := by cases x; simp [encStr, bytesL]
/-- rows of texts -/
theorem rdl_str {P : Program} {S : Nat → Prop} {w : World} : ∀ {xs : List ByteArray} {cs : List Value}, RdL P .str S w xs cs → cs = (xs.map bytesL).map encStr ∧ ∀ x ∈ xs, x.size ≤ maxLen
  | [], cs, h => ⟨h, fun x hx => by cases hx⟩
  | x :: r, cs, h => by
    obtain ⟨c1, c2, rfl, h1, h2⟩ := h
    obtain ⟨e, hr⟩ := rdl_str h2
    refine ⟨?_, fun y hy => ?_⟩
    · rw [List.map_cons, List.map_cons, enc_bytes, e, h1.1]; rfl
    · rcases List.mem_cons.1 hy with rfl | hy
      · exact h1.2
      · exact hr y hy
theorem rdl_str_of {P : Program} {S : Nat → Prop} {w : World} : ∀ {xs : List ByteArray}, (∀ x ∈ xs, x.size ≤ maxLen) → RdL P .str S w xs ((xs.map bytesL).map encStr)
  | [], _ => rfl
  | x :: r, h => ⟨[.string x], _, by rw [List.map_cons, List.map_cons, enc_bytes]; rfl, ⟨rfl, h x List.mem_cons_self⟩, rdl_str_of fun y hy => h y (List.mem_cons_of_mem _ hy)⟩
theorem mval103 : MValid Tryz.prog GW 103 mSortS := by
  refine ⟨⟨Tryz.f103, Tryz.func103, by kernel_rfl, rfl⟩, fun w _ base S v xs cs y ys hb hz h1 hown hrl hns hys hpre => ?_⟩
  obtain rfl : ys = [] := hys
  obtain ⟨hcs, hle⟩ := rdl_str hrl
  have hlen : (sortN xs).length = xs.length := sortN_length xs
  have hpre : xs.length ≤ 1000000000 := hpre
  rcases hown.2 with ⟨rfl, hn⟩ | ⟨g, cap, cur, rfl, hg, hh, hcap, hmax, hsz, htk⟩
  · obtain rfl : xs = [] := List.length_eq_zero_iff.1 hn
    refine (Tryz.slices_Sort_string_none none 0 w).mono ?_
    rintro e w' ⟨rfl, rfl⟩
    exact ⟨⟨rfl, rfl, rfl, Nat.le_refl _, fun _ _ _ => rfl⟩, .inr ⟨rfl, rfl, rfl, [], by rw [show cs = [] from hcs] at hown; exact hown, rfl⟩⟩
  · have hlt : g < w.heap.size := (Array.getElem?_eq_some_iff.1 hh).1
    have hl2 : (xs.map bytesL).length = xs.length := List.length_map _
    have htk' : cur.toList.take (xs.map bytesL).length = (xs.map bytesL).map encStr := by
      rw [hl2, ← hcs, ← htk]
      show _ = List.take (xs.length * 1) cur.toList
      rw [Nat.mul_one]
    have hH := holds_of_block hh htk'
    have hcall := Tryz.slices_Sort_string g 0 cap (xs.map bytesL) w hH hlt (by rw [hl2]; omega)
    rw [hl2] at hcall
    refine Calls.mono hcall ?_
    rintro e w' ⟨rfl, n, os, rfl⟩
    have hsb : (xs.map bytesL).mergeSort leB = (sortN xs).map bytesL := (sortN_bytes xs).symm
    rw [show ((xs.map bytesL).mergeSort fun x y => decide (x ≤ y)) = (sortN xs).map bytesL from hsb]
    refine ⟨grownBy_sorted _, .inr ⟨rfl, rfl, hlen, ((sortN xs).map bytesL).map encStr, ?_, ?_⟩⟩
    · have := ownsRow_sorted (w := w) (base := base) (g := g) (cap := cap) (n := n) (e := 9) (os := os) (cur := cur) (ss := xs.map bytesL) (ts := (sortN xs).map bytesL) ((List.length_map _).trans (hlen.trans hl2.symm)) hg hh (by rw [hl2]; exact hcap) hmax hsz
      rw [hl2] at this
      exact this
    · exact rdl_str_of fun x hx => hle x ((sortN_perm xs).mem_iff.1 hx)
end Go.Proofs.YtfhlceooobabcaaGreatDoor.Wn
set_option linter.all false
namespace Go.Proofs.YtfhlceooobabcaaGreatDoor.Wn
open Go Go.Eng Go.Lb Go.Ad Wd
set_option maxRecDepth 100000
set_option maxHeartbeats 8000000
theorem v59 : Vc g59 300 Tryz.f59 cNames := by
  constructor
  rw [v59_eq]
  simp only [Wr_iff, bcase_iff, true_and, and_true, decide_eq_true_eq, decide_eq_false_iff_not, Bool.and_eq_true, Bool.and_eq_false_iff, Bool.or_eq_true, Bool.or_eq_false_iff, Bool.not_eq_true', Bool.not_eq_false', Option.map_some, Option.getD_some, Option.isSome_some, Option.isSome_map, imp_self, nilL, noneO]
  rintro ⟨p, ⟨⟩⟩ hp
  have hp : p.1.length ≤ 1000000 := of_decide_eq_true hp
  dsimp only
  refine ⟨⟨NamI.zero _, Nat.le_refl _⟩, fun ⟨i, n, f⟩ I => ⟨fun hi => ?_, fun hi => ⟨NamJ.start, fun ⟨ss, left, cnt⟩ J => ⟨fun s y m h => ?_, fun hno => ?_⟩⟩⟩⟩
  · have h0 : 0 ≤ i := I.i0
    have hn : n = i.toNat := I.n
    dsimp only at hi ⊢
    obtain ⟨h1, h2⟩ := I.on (v := IntKind.wrap .i64 (Option.getD (f (p.1.getD i.toNat ZoneT.zero).1) 0 + 1)) hp hi
    exact ⟨h0, hi, by simp [maxLen]; omega, h1, h2, Nat.le_refl _⟩
  · have hJ : ss.length + cnt ≤ n := J.n
    have hn : n = i.toNat := I.n
    have h1 : i ≤ p.1.length := I.i1
    dsimp only at h ⊢
    refine ⟨?_, J.on h.1 h.2.2, h.2.2⟩
    simp only [List.length_cons, List.length_nil]
    omega
  · have hJ : ss.length + cnt ≤ n := J.n
    have hn : n = i.toNat := I.n
    have h1 : i ≤ p.1.length := I.i1
    dsimp only
    exact ⟨by omega, congrArg (fun l => (l, ())) (J.fin I hi hno)⟩
theorem v63 : Vc g63 300 Tryz.f63 (cClone 47 32 AdT) := by
  constructor
  rw [v63_eq]
  simp only [Wr_iff, bcase_iff, true_and, and_true, decide_eq_true_eq, decide_eq_false_iff_not, Bool.and_eq_true, Bool.and_eq_false_iff, Bool.or_eq_true, Bool.or_eq_false_iff, Bool.not_eq_true', Bool.not_eq_false', Option.map_some, Option.getD_some, Option.isSome_some, Option.isSome_map, imp_self, nilL, noneO]
  intro x hx b hb
  exact ⟨hb, fun _ => ⟨by simp; omega, rfl⟩⟩
theorem eqb_ad {x y : Ad} : Ty.eqb AdT x y = decide (x = y) := by
  rw [Bool.eq_iff_iff, decide_eq_true_iff]
  exact eqb_iff AdT kAd x y
theorem SamI.on {a b : List Ad} {i : Int} (h : SamI a b i) (hl : a.length ≤ 9223372036854775807) (hi : i < a.length) (he : Ty.eqb AdT (a.getD i.toNat AdT.zero) (b.getD i.toNat AdT.zero) = true) :
    SamI a b (IntKind.wrap .i64 (i + 1)) ∧ a.length - (IntKind.wrap .i64 (i + 1)).toNat < a.length - i.toNat := by
  have h0 := h.i0
  have hlen := h.l
  have e : IntKind.wrap .i64 (i + 1) = i + 1 := wrap_id (by omega) (by omega)
  rw [e]
  refine ⟨⟨by omega, by omega, hlen, ?_⟩, by omega⟩
  rw [take_succ a i AdT.zero h0 hi, take_succ b i AdT.zero h0 (by omega), h.e]
  have := (eqb_iff AdT kAd _ _).1 he
  rw [this]
theorem SamI.no {a b : List Ad} {i : Int} (hi : i < a.length) (h0 : 0 ≤ i) (hl : a.length = b.length) (he : Ty.eqb AdT (a.getD i.toNat AdT.zero) (b.getD i.toNat AdT.zero) = false) : a ≠ b := by
  rintro rfl
  exact absurd (he.symm.trans ((eqb_iff AdT kAd _ _).2 rfl)) (by decide)
theorem SamI.fin {a b : List Ad} {i : Int} (h : SamI a b i) (hi : ¬ i < a.length) : a = b := by
  have h1 := h.i1
  have h2 := h.l
  have h3 := h.e
  rwa [List.take_of_length_le (by omega), List.take_of_length_le (by omega)] at h3
theorem v26 : Vc g26 300 Tryz.f26 cSameA.T := by
  constructor
  rw [v26_eq]
  simp only [Wr_iff, bcase_iff, true_and, and_true, decide_eq_true_eq, decide_eq_false_iff_not, Bool.and_eq_true, Bool.and_eq_false_iff, Bool.or_eq_true, Bool.or_eq_false_iff, Bool.not_eq_true', Bool.not_eq_false', Option.map_some, Option.getD_some, Option.isSome_some, Option.isSome_map, imp_self, nilL, noneO]
  rintro ⟨a, b, ⟨⟩⟩ ht
  have hl : a.length ≤ 9223372036854775807 := by
    have h1 := ht
    simp only [typedB, Bool.and_eq_true, decide_eq_true_eq, maxLen] at h1
    have := h1.1.1
    exact of_decide_eq_true this
  dsimp only
  refine ⟨fun h => ?_, fun h => ⟨⟨Int.le_refl _, Int.natCast_nonneg _, by omega, rfl⟩, fun i I => ⟨fun hi => ⟨I.i0, hi, I.i0, by omega, fun he => ?_, fun he => I.on hl hi he⟩, fun hi => ?_⟩⟩⟩
  · rw [decide_eq_false (fun e => h (by rw [e]))]
  · rw [decide_eq_false (SamI.no hi I.i0 I.l he)]
  · rw [decide_eq_true (I.fin hi)]
theorem ans_none {p : Pl} {s : ByteArray} (h : p.1.find? (zIs s) = none) (n : Int) : ansR p s n = [] := by
  have : ansL p s = [] := by unfold ansL; rw [h]
  rw [ansR, this]; rfl
theorem ans_some {p : Pl} {s : ByteArray} {z : Zn} (h : p.1.find? (zIs s) = some z) : ansL p s = z.2.1 := by unfold ansL; rw [h]
theorem ans_110 {p : Pl} {s : ByteArray} {n : Int} (h : ansR p s n = []) : (([] : List Ad), (110 : Int), ()) = (ansR p s n, ansE p s n, ()) := by
  rw [ansE, h]; rfl
theorem ans_0 {p : Pl} {s : ByteArray} {n : Int} {r : List Ad} (h : ansR p s n = r) (hr : ¬ (r.length : Int) = 0) : (r, (0 : Int), ()) = (ansR p s n, ansE p s n, ()) := by
  rw [ansE, h, decide_eq_false (show ¬ r.length = 0 by omega)]; rfl
theorem rowAt_eq {l : List (List Ad)} {n : Int} (h : ¬ (l.length : Int) = 0) : rowAt l n = l.getD (min (max n 0) ((l.length : Int) - 1)).toNat [] := by
  rw [rowAt, decide_eq_false (show ¬ l.length = 0 by omega)]; rfl
theorem ansOk_iff (p : Pl) : ansOk p = true ↔ p.1.length ≤ 1000000 ∧ ∀ z ∈ p.1, z.2.1.length ≤ 1000000 ∧ ∀ r ∈ z.2.1, r.length * 32 ≤ 140737488355328 := by
  simp only [ansOk, zoSz, rowSz, Bool.and_eq_true, decide_eq_true_eq, List.all_eq_true]
theorem minZ (n : Int) {m : Int} (h : 0 < m) : 0 ≤ min (max n 0) (m - 1) ∧ min (max n 0) (m - 1) < m := by omega
theorem ans_core {p : Pl} {s : ByteArray} {z : Zn} (n : Int) {m : Int} (hc : ansOk p = true) (hz : z ∈ p.1) (hf : p.1.find? (zIs s) = some z) (hmm : m = (z.2.1.length : Int) - 1) (ha : ¬ (z.2.1.length : Int) = 0) :
    (0 ≤ min (max n 0) m ∧ min (max n 0) m < (z.2.1.length : Int)) ∧
      ansR p s n = z.2.1.getD (min (max n 0) m).toNat [] ∧ (z.2.1.getD (min (max n 0) m).toNat []).length * 32 ≤ 140737488355328 := by
  subst hmm
  have h1 := ((ansOk_iff p).1 hc).2 z hz
  have hm := minZ n (m := (z.2.1.length : Int)) (by omega)
  exact ⟨hm, by rw [ansR, ans_some hf, rowAt_eq ha], h1.2 _ (getD_memA (z := ([] : List Ad)) hm.1 hm.2)⟩
theorem nil_of {l : List Ad} (h : (l.length : Int) = 0) : l = [] := List.length_eq_zero_iff.1 (Int.ofNat_eq_zero.1 h)
theorem ans_wrap {z : Zn} (h : z.2.1.length ≤ 1000000) : IntKind.wrap .i64 ((z.2.1.length : Int) - 1) = (z.2.1.length : Int) - 1 := wrap_id (by omega) (by omega)
theorem ans_nil {p : Pl} {s : ByteArray} {z : Zn} (n : Int) (hf : p.1.find? (zIs s) = some z) (h : (z.2.1.length : Int) = 0) : ansR p s n = [] := by
  rw [ansR, ans_some hf, rowAt, decide_eq_true (show z.2.1.length = 0 by omega)]; rfl
theorem v25 : Vc g25 300 Tryz.f25 cAns := by
  constructor
  rw [v25_eq]
  simp only [Wr_iff, bcase_iff, true_and, and_true, decide_eq_true_eq, decide_eq_false_iff_not, Bool.and_eq_true, Bool.and_eq_false_iff, Bool.or_eq_true, Bool.or_eq_false_iff, Bool.not_eq_true', Bool.not_eq_false', Option.map_some, Option.getD_some, Option.isSome_some, Option.isSome_map, imp_self, nilL, noneO]
  rintro ⟨p, s, n, ⟨⟩⟩ hc
  dsimp only at hc ⊢
  have hl : p.1.length ≤ 5000000000 := by have := ((ansOk_iff p).1 hc).1; omega
  refine ⟨IdxI.zero _ _, fun i hu => ⟨fun hi => ⟨hu.i0, hi, fun hg => ⟨fun h => absurd hu.i0 (by omega), fun _ => ?_⟩, fun hg => hu.on ZoneT.zero hl hi (decide_eq_false hg)⟩, fun hi => ans_110 (ans_none (hu.none hi) n)⟩⟩
  have hz := getD_memA (z := ZoneT.zero) hu.i0 hi
  have hf := hu.find ZoneT.zero hi (decide_eq_true hg)
  have hsz := (((ansOk_iff p).1 hc).2 _ hz).1
  refine ⟨hu.i0, hi, fun h => ans_110 (ans_nil n hf h), fun ha => ?_⟩
  · obtain ⟨c1, c2, c3⟩ := ans_core n hc hz hf (ans_wrap hsz) ha
    refine ⟨c1.1, c1.2, fun h => ans_110 ?_, fun h => ⟨c3, ans_0 c2 h⟩⟩
    rcases h with h | h
    · cases h
    · exact c2.trans (nil_of h)
end Go.Proofs.YtfhlceooobabcaaGreatDoor.Wn
namespace Go.Proofs.YtfhlceooobabcaaGreatDoor.Wn
open Go Go.Eng Go.Lb Go.Ad Wd
set_option maxRecDepth 100000
theorem val59 : Valid Tryz.prog GW 59 cNames := mkValidM gws Tb.mix Tb.tab_ok Tb.eqs_ok (by kernel_rfl) g59 rfl (allM_cons mval103 allM_nil) allV_nil allI_nil Tryz.func59 (by kernel_rfl) v59
theorem val63 : Valid Tryz.prog GW 63 ((cClone 47 32 AdT)) := mkValid gws Tb.mix Tb.tab_ok Tb.eqs_ok g63 rfl allV_nil allI_nil Tryz.func63 (by kernel_rfl) v63
theorem val26 : Valid Tryz.prog GW 26 cSameA := Valid.T (mkValid gws Tb.mix Tb.tab_ok Tb.eqs_ok g26 rfl allV_nil allI_nil Tryz.func26 (by kernel_rfl) v26)
theorem val25 : Valid Tryz.prog GW 25 cAns := mkValid gws Tb.mix Tb.tab_ok Tb.eqs_ok g25 rfl (allV_cons val63 allV_nil) (allI_cons Tryz.func60 (by kernel_rfl) (allI_cons Tryz.func61 (by kernel_rfl) (allI_cons Tryz.func62 (by kernel_rfl) allI_nil))) Tryz.func25 (by kernel_rfl) v25
end Go.Proofs.YtfhlceooobabcaaGreatDoor.Wn
namespace Go.Eng
namespace Sz
open Go.RowKit

variable {H : Type} {enc : TypeId × Value → H} {P : Program} {w : World} {sp : Nat → Bool} {held : Bool}

/-! WHAT A STATEMENT GRANTS ABOUT AN ARGUMENT'S BYTES, AS BOUNDS ON THE ENGINE'S DATA -/
def bz (L : List (Ty × Nat)) (t : Ty) : Nat := ((L.find? fun q => q.1 == t).map (·.2)).getD 1
def Bnd (L : List (Ty × Nat)) : (t : Ty) → t.El → Prop
  | .sl t, xs => List.length (α := t.El) xs * bz L t ≤ reachBytes ∧ ∀ x, x ∈ (show List t.El from xs) → Bnd L t x
  | .cons t u, x => Bnd L t x.1 ∧ Bnd L u x.2
  | _, _ => True
/-- does an element of each slice have bytes? -/
def byB (L : List (Ty × Nat)) (P : Program) : Nat → TypeId → Bool
  | 0, _ => false
  | n + 1, T => match P.underlying T with
    | some (.slice e) => (decide (1 ≤ P.bytesOf e) && L.all fun q => !tyB P n e q.1 || decide (q.2 ≤ P.bytesOf e)) && byB L P n e
    | some (.struct fs) => fs.toList.all fun f => byB L P n f.type
    | some (.array _ e) => byB L P n e
    | _ => true
variable {L : List (Ty × Nat)}
abbrev Wt (P : Program) (T : TypeId) (d : DataW H) : Prop := ∀ k ∈ d.weights P T, k ≤ reachBytes

theorem wt_all {e : TypeId} : ∀ {ds : List (DataW H)}, (∀ k ∈ DataW.weightsAll P e ds, k ≤ reachBytes) → ∀ d ∈ ds, Wt P e d
  | [], _, d, hd => by cases hd
  | d0 :: r, h, d, hd => by
    simp only [DataW.weightsAll, List.mem_append] at h
    rcases List.mem_cons.1 hd with rfl | hd
    · exact fun k hk => h k (.inl hk)
    · exact wt_all (fun k hk => h k (.inr hk)) d hd
theorem rd_fieldsS {n : Nat} (hI : ∀ T t, tyB P n T t = true → byB L P n T = true → ∀ fuel cs x, DataW.trod enc P w 0 sp held fuel T cs = some x → Wt P T x.1 → ∃ y, RdC P t (Old w) w y cs ∧ Bnd L t y) :
    ∀ (fs : List Field) (t : Ty) (off m : Nat) (cs : List Value), tyFs (tyB P n) P off fs t = true → off + t.size = cs.length →
      (∀ f ∈ fs, byB L P n f.type = true ∧ ∃ x, DataW.trod enc P w 0 sp held m f.type ((cs.drop f.offset).take (P.cellsOf f.type)) = some x ∧ Wt P f.type x.1) → ∃ y, RdC P t (Old w) w y (cs.drop off) ∧ Bnd L t y := by
  intro fs
  induction fs with
  | nil =>
    intro t off m cs h hl _
    cases t <;> simp [tyFs] at h
    exact ⟨(), by simp [Ty.size] at hl; simp [RdC, hl], trivial⟩
  | cons f r ih =>
    intro t off m cs h hl hx
    cases t <;> simp only [tyFs, Bool.false_eq_true, Bool.and_eq_true, beq_iff_eq] at h
    rename_i t u
    obtain ⟨⟨⟨h1, h2⟩, h3⟩, h4⟩ := h
    subst h1
    obtain ⟨hby, x, hx0, hwt⟩ := hx f List.mem_cons_self
    obtain ⟨y, hy, hby2⟩ := hI _ _ h2 hby _ _ _ hx0 hwt
    obtain ⟨z, hz, hbz⟩ := ih u (f.offset + t.size) m cs h4 (by simp only [Ty.size] at hl; omega) (fun g hg => hx g (List.mem_cons_of_mem _ hg))
    refine ⟨(y, z), ⟨_, _, ?_, hy, hz⟩, hby2, hbz⟩
    rw [h3]
    have := List.take_append_drop t.size (cs.drop f.offset)
    rw [List.drop_drop] at this
    exact this.symm

theorem rd_elemsS {n : Nat} {e : TypeId} (hI : ∀ T t, tyB P n T t = true → byB L P n T = true → ∀ fuel cs x, DataW.trod enc P w 0 sp held fuel T cs = some x → Wt P T x.1 → ∃ y, RdC P t (Old w) w y cs ∧ Bnd L t y) (hbe : byB L P n e = true) :
    ∀ (k : Nat) (t : Ty) (i m : Nat) (cs : List Value), tyAr (tyB P n) P e k t = true → i * P.cellsOf e + t.size = cs.length →
      (∀ j, i ≤ j → j < i + k → ∃ x, DataW.trod enc P w 0 sp held m e ((cs.drop (j * P.cellsOf e)).take (P.cellsOf e)) = some x ∧ Wt P e x.1) → ∃ y, RdC P t (Old w) w y (cs.drop (i * P.cellsOf e)) ∧ Bnd L t y := by
  intro k
  induction k with
  | zero =>
    intro t i m cs h hl _
    cases t <;> simp [tyAr] at h
    exact ⟨(), by simp [Ty.size] at hl; simp [RdC, hl], trivial⟩
  | succ k ih =>
    intro t i m cs h hl hx
    cases t <;> simp only [tyAr, Bool.false_eq_true, Bool.and_eq_true, beq_iff_eq] at h
    rename_i t u
    obtain ⟨⟨h2, h3⟩, h4⟩ := h
    obtain ⟨x, hx0, hwt⟩ := hx i (Nat.le_refl _) (by omega)
    obtain ⟨y, hy, hby2⟩ := hI _ _ h2 hbe _ _ _ hx0 hwt
    have e1 : (i + 1) * P.cellsOf e = i * P.cellsOf e + t.size := by rw [Nat.add_mul, h3]; omega
    obtain ⟨z, hz, hbz⟩ := ih u (i + 1) m cs h4 (by simp only [Ty.size] at hl; omega) (fun j h1 h2 => hx j (by omega) (by omega))
    refine ⟨(y, z), ⟨_, _, ?_, hy, hz⟩, hby2, hbz⟩
    rw [e1, ← List.drop_drop, h3]
    exact (List.take_append_drop _ _).symm

/-- WHAT READS AS DATA, READS AS THE ENGINE's DATA -/
theorem rd_of_trodS : ∀ (n : Nat) (T : TypeId) (t : Ty), tyB P n T t = true → byB L P n T = true → ∀ (fuel : Nat) (cs : List Value) (x : DataW H × List MemPlace), DataW.trod enc P w 0 sp held fuel T cs = some x → Wt P T x.1 → ∃ y, RdC P t (Old w) w y cs ∧ Bnd L t y
  | 0, _, _, h, _, _, _, _, _, _ => by cases h
  | n + 1, T, t, h, hby, fuel, cs, x, hx, hwt => by
    have hI := rd_of_trodS n
    unfold tyB at h
    unfold byB at hby
    cases hu : P.underlying T with
    | none => rw [hu] at h; cases h
    | some d =>
      rw [hu] at h hby
      cases d <;> simp only [Bool.false_eq_true] at h
      case bool =>
        cases t <;> simp only [Bool.false_eq_true] at h
        obtain ⟨b, rfl, _⟩ := DataW.trod_bool hu hx
        exact ⟨b, rfl, trivial⟩
      case int k =>
        cases t <;> simp only [Bool.false_eq_true, decide_eq_true_eq] at h
        subst h
        obtain ⟨m, rfl, _, hw⟩ := DataW.trod_int hu hx
        exact ⟨m, ⟨rfl, wrap_of_wf hw⟩, trivial⟩
      case string =>
        cases t <;> simp only [Bool.false_eq_true] at h
        obtain ⟨s, rfl, _, hs⟩ := DataW.trod_string hu hx
        exact ⟨s, ⟨rfl, hs⟩, trivial⟩
      case pointer e =>
        cases t <;> simp only [Bool.false_eq_true, Bool.and_eq_true, beq_iff_eq, decide_eq_true_eq] at h
        rename_i t
        obtain ⟨⟨h1, h2⟩, h3⟩ := h
        rcases DataW.trod_pointer hu hx with ⟨rfl, _⟩ | ⟨a, cs', y, m, _, rfl, _, hc, hy⟩
        · exact ⟨(none : Option t.El), rfl, trivial⟩
        · obtain ⟨z, hz⟩ := rd_of_trod n e t h1 _ _ _ hy
          obtain ⟨b, off, rfl, hb, hl⟩ := cells_plain hc (by omega)
          exact ⟨(some z : Option t.El), ⟨b, off, cs', rfl, hb, hz, hl⟩, trivial⟩
      case slice e =>
        cases t <;> simp only [Bool.false_eq_true, Bool.and_eq_true, beq_iff_eq, decide_eq_true_eq] at h
        rename_i t
        obtain ⟨⟨h1, h2⟩, h3⟩ := h
        rcases DataW.trod_slice hu hx with ⟨rfl, _⟩ | ⟨a, len, cap, elems, rest, m, _, rfl, hxe, _, hlc, hcm, hel, hall, _⟩
        · exact ⟨([] : List t.El), ⟨none, 0, rfl, Nat.le_refl _, by unfold maxLen; omega, fun h => absurd rfl h⟩, by simp, fun x hx => by cases hx⟩
        · simp only [Bool.and_eq_true, decide_eq_true_eq] at hby
          rw [hxe] at hwt
          have hwl : (elems.length + rest.length) * P.bytesOf e ≤ reachBytes := hwt _ (by simp [DataW.weights, hu])
          have hwe : ∀ d ∈ elems.map (·.1), Wt P e d := wt_all fun k hk => hwt k (by simp only [DataW.weights, hu, List.mem_cons, List.mem_append]; exact .inr (.inl hk))
          have hlen1 : len * bz L t ≤ reachBytes := by
            have hle : bz L t ≤ P.bytesOf e := by
              unfold bz
              cases hf : L.find? fun q => q.1 == t with
              | none => exact hby.1.1
              | some q =>
                have hq := List.all_eq_true.1 hby.1.2 q (List.mem_of_find?_eq_some hf)
                have ht : q.1 = t := by simpa using List.find?_some hf
                rw [ht, h1] at hq
                simpa using hq
            have : len ≤ elems.length + rest.length := by omega
            exact Nat.le_trans (Nat.mul_le_mul this hle) hwl
          have each : ∀ i, i < len → ∃ b off es y, a.add (i * P.cellsOf e) = ⟨b, off, none⟩ ∧ b < w.heap.size ∧ Lies w b off es ∧ (RdC P t (Old w) w y es ∧ Bnd L t y) := by
            intro i hi
            have hh := hall i hi
            have : ∃ z, elems[i]? = some z := ⟨elems[i], by simp [hel, hi]⟩
            obtain ⟨z, hz⟩ := this
            rw [hz, Option.bind_eq_some_iff] at hh
            obtain ⟨es, hes, htr⟩ := hh
            obtain ⟨y, hy⟩ := hI e t h1 hby.2 _ _ _ htr (hwe _ (List.mem_map.2 ⟨z, List.mem_of_getElem? hz, rfl⟩))
            obtain ⟨b, off, e1, hb, hl⟩ := cells_plain hes (by omega)
            exact ⟨b, off, es, y, e1, hb, hl, hy⟩
          classical
          let f : Nat → t.El := fun i => if hi : i < len then Classical.choose (Classical.choose_spec (Classical.choose_spec (Classical.choose_spec (each i hi)))) else t.zero
          refine ⟨((List.range len).map f : List t.El), ⟨some a, cap, by simp, by simpa using hlc, hcm, fun hne => ?_⟩, by simpa using hlen1, fun x hx => ?_⟩
          rotate_left
          · obtain ⟨i, hi, rfl⟩ := List.mem_map.1 hx
            have hil : i < len := List.mem_range.1 hi
            simp only [f, hil, dif_pos]
            exact (Classical.choose_spec (Classical.choose_spec (Classical.choose_spec (Classical.choose_spec (each i hil))))).2.2.2.2
          have hlen : 0 < len := by
            rcases Nat.eq_zero_or_pos len with h0 | h0
            · subst h0; exact absurd rfl hne
            · exact h0
          obtain ⟨b, off, _, _, e0, hb, _, _⟩ := each 0 hlen
          have ea : a = ⟨b, off, none⟩ := by simpa [Addr.add] using e0
          subst ea
          refine ⟨b, off, rfl, hb, fun i x hi => ?_⟩
          rw [List.getElem?_map] at hi
          have hil : i < len := by
            rcases Nat.lt_or_ge i len with h' | h'
            · exact h'
            · rw [List.getElem?_eq_none (by simpa using h')] at hi; cases hi
          rw [List.getElem?_range hil] at hi
          obtain rfl := Option.some.inj hi
          have hs := Classical.choose_spec (each i hil)
          have hs2 := Classical.choose_spec hs
          have hs3 := Classical.choose_spec hs2
          have hs4 := Classical.choose_spec hs3
          refine ⟨Classical.choose hs2, ?_, ?_⟩
          · simp only [f, hil, dif_pos]
            exact hs4.2.2.2.1
          · have this : (⟨b, off + i * P.cellsOf e, none⟩ : Addr) = ⟨Classical.choose (each i hil), Classical.choose hs, none⟩ := (Go.WideShapes.add_plain b off (i * P.cellsOf e)).symm.trans hs4.1
            have e1 : b = Classical.choose (each i hil) := congrArg Addr.block this
            have e2 : off + i * P.cellsOf e = Classical.choose hs := congrArg Addr.off this
            rw [← h2]
            exact lies_at e1 e2 hs4.2.2.1
      case struct fs =>
        simp only [Bool.and_eq_true, beq_iff_eq] at h
        obtain ⟨⟨_, h2⟩, h3⟩ := h
        obtain ⟨xs, m, _, hxe, hl, hxl, hf⟩ := DataW.trod_struct hu hx
        rw [hxe] at hwt
        have := rd_fieldsS (P := P) (w := w) (enc := enc) (sp := sp) (held := held) hI fs.toList t 0 m cs h3 (by rw [hl, h2]; omega) (fun f hfm => by
          obtain ⟨i, hi, rfl⟩ := List.getElem_of_mem hfm
          have hi' : i < fs.size := by simpa using hi
          refine ⟨List.all_eq_true.1 hby _ (by simp), xs[i]'(by rw [hxl]; exact hi'), ?_, fun k hk => hwt k ?_⟩
          · rw [hf i _ (by simp [hi'])]
            simp [hxl, hi']
          · simp only [DataW.weights, hu]
            exact DataW.weights_mem_each (j := i) (by simp [hi']) (by simp [hxl, hi']) k hk)
        simpa using this
      case array k e =>
        simp only [Bool.and_eq_true, beq_iff_eq] at h
        obtain ⟨⟨_, h2⟩, h3⟩ := h
        obtain ⟨xs, m, _, hxe, hl, hxl, hf⟩ := DataW.trod_array hu hx
        rw [hxe] at hwt
        have hwe : ∀ d ∈ xs.map (·.1), Wt P e d := wt_all fun k hk => hwt k (by simp only [DataW.weights, hu]; exact hk)
        have := rd_elemsS (P := P) (w := w) (enc := enc) (sp := sp) (held := held) hI hby k t 0 m cs h3 (by rw [hl, h2]; omega) (fun j _ hj => by
          refine ⟨xs[j]'(by omega), ?_, hwe _ (List.mem_map.2 ⟨_, List.getElem_mem (by omega), rfl⟩)⟩
          rw [hf j (by omega)]
          simp [show j < xs.length by omega])
        simpa using this

theorem rd_of_allS {r : Reach} {base : Nat} : ∀ (ts : List TypeId) (a : Ty) (vs : List Value) (ds : List (DataW H)) (ps : List MemPlace), tysB P ts a = true → (ts.all fun T => byB L P 60 T) = true → (∀ k ∈ DataW.weightsEach P ts ds, k ≤ reachBytes) → (∀ (j : Nat) t v, ts[j]? = some t → vs[j]? = some v → Value.okWide P w r base t v) →
    DataW.TrodAll enc P w 0 sp held ts vs ds ps → ∃ x cs, (RdC P a (Old w) w x cs ∧ Bnd L a x) ∧ group a cs = vs
  | [], a, vs, ds, ps, h, _, _, _, ht => by
    cases a <;> simp [tysB] at h
    obtain ⟨rfl, _, _⟩ := Go.ChangeShapes.trodAll_nil ht
    exact ⟨(), [], ⟨rfl, trivial⟩, rfl⟩
  | T :: ts, a, vs, ds, ps, h, hby, hwt, hv, ht => by
    cases a <;> simp only [tysB, Bool.false_eq_true, Bool.and_eq_true] at h
    rename_i t u
    obtain ⟨v, vs', d, ds', p, q, rfl, rfl, rfl, h0, hr⟩ := Go.ChangeShapes.trodAll_cons ht
    obtain ⟨fuel, hf⟩ := h0
    simp only [List.all_cons, Bool.and_eq_true] at hby
    simp only [DataW.weightsEach, List.mem_append] at hwt
    obtain ⟨y, hy, by1⟩ := rd_of_trodS _ T t h.1 hby.1 fuel _ _ hf (fun k hk => hwt k (.inl hk))
    obtain ⟨z, cs, ⟨hz, by2⟩, hg⟩ := rd_of_allS ts u vs' ds' q h.2 hby.2 (fun k hk => hwt k (.inr hk)) (fun j t v h1 h2 => hv (j + 1) t v h1 h2) hr
    have e := tyB_agg h.1 (hv 0 T v rfl rfl)
    refine ⟨(y, z), v.cells.toList ++ cs, ⟨⟨_, _, rfl, hy, hz⟩, by1, by2⟩, ?_⟩
    have hl := hy.length
    simp only [group]
    rw [← hl, List.take_left, List.drop_left, ← e, hg]


theorem wts_sub {P : Program} : ∀ {ts us : List TypeId} {ds gs : List (DataW H)} {k : Nat}, k ∈ DataW.weightsEach P ts ds → k ∈ DataW.weightsEach P (ts ++ us) (ds ++ gs)
  | [], _, _, _, _, h => by simp [DataW.weightsEach] at h
  | _ :: _, _, [], _, _, h => by simp [DataW.weightsEach] at h
  | t :: ts, us, d :: ds, gs, k, h => by
    simp only [DataW.weightsEach, List.mem_append, List.cons_append] at h ⊢
    exact h.imp id wts_sub
theorem wts_left {P : Program} {ts us : List TypeId} {ds gs : List (DataW H)} (h : (DataW.weightsEach P (ts ++ us) (ds ++ gs)).all (· ≤ reachBytes) = true) : (DataW.weightsEach P ts ds).all (· ≤ reachBytes) = true :=
  List.all_eq_true.2 fun k hk => List.all_eq_true.1 h k (wts_sub hk)
/-- A LAW WHOSE ARGUMENTS ARE BOUNDED -/
theorem law_walkS {g : FuncId} {a : Ty} {pre : a.El → Prop} {F : a.El → (Ty.cons .bool .unit).El} {preB : a.El → Bool} {preOk : ∀ x, preB x = true → pre x} {W : World} {r : Reach} {base : Nat} {ts : List TypeId} {args : Array Value} {ds : List (DataW H)} {ps : List MemPlace}
    {G : World → Prop} (hG : G W) (hv : Valid P G g ⟨a, .cons .bool .unit, pre, F, preB, preOk, none, false⟩)
    (hpre : ∀ x, Bnd L a x → pre x) (hF : ∀ x, F x = (true, ())) (ht : tysB P ts a = true) (hby : (ts.all fun T => byB L P 60 T) = true) (hwt : (DataW.weightsEach P ts ds).all (· ≤ reachBytes) = true) (hval : ∀ (j : Nat) t v, ts[j]? = some t → args[j]? = some v → Value.okWide P W r base t v)
    (hA : DataW.TrodAll enc P W 0 sp held ts args.toList ds ps) : Calls P g args W fun e W' => e = .returned (.bool true) ∧ Below W.heap.size W W' := by
  obtain ⟨x, cs, ⟨hx, hbd⟩, hg⟩ := rd_of_allS ts a args.toList ds ps ht hby (fun k hk => by simpa using List.all_eq_true.1 hwt k hk) (fun j t v h1 h2 => hval j t v h1 (by simpa using h2)) hA
  have hw := hv.2 W hG (Old W) x cs (fun b hb => hb) hx (hpre x hbd)
  simp only [hg] at hw
  refine hw.mono fun e W' ⟨hb, h⟩ => ⟨?_, hb⟩
  obtain ⟨rs, he, hrs, _⟩ := h
  simp only [hF] at hrs
  obtain ⟨c1, c2, rfl, h1, h2⟩ := hrs
  obtain rfl : c1 = [.bool true] := h1
  obtain rfl : c2 = [] := h2
  exact he
end Sz
end Go.Eng
set_option maxRecDepth 100000
namespace Go.Proofs.YtfhlceooobabcaaGreatDoor.Wn
open Go Go.Eng Go.Lb Go.Ad Wd
abbrev GW (w : World) : Prop := Wd.GW w
def cAdr : Contract := conD (.cons U16 .unit) (.cons AdT .unit) (fun _ => true) fun x => ((4, (2560, x.1, 0, 0, 0, 0, 0, 0, ()), 80, ()), ())
/-! fates -/
def cFates : Contract := conD (.cons PlanT (.cons AdT .unit)) (.cons (.sl I8) .unit) (fun _ => true) fun x => (fateRow x.1 x.2.1, ())
def cFate2 : Contract := conD (.cons PlanT (.cons AdT (.cons I64 .unit))) (.cons I8 .unit) (fun _ => true) fun x => (fateF x.1 x.2.1 x.2.2.1, ())
def badF (x : Int) : Bool := !decide (x = 0)
def badA (p : Pl) (a : Ad) : Bool := decide ((fateRow p a).length = 0) || (fateRow p a).any badF
def cGood : Contract := conD (.cons PlanT (.cons AdL .unit)) (.cons .bool .unit) (fun _ => true) fun x => (!x.2.1.any (badA x.1), ())
/-! the law -/
def szL : List (Ty × Nat) := [(AdT, 32)]
def cLs (a : Ty) : Contract := { a := a, r := .cons .bool .unit, pre := Sz.Bnd szL a, F := fun _ => (true, ()) }
abbrev aSt : Ty := .cons PlanT (.cons .str (.cons AdT (.cons I64 .unit)))
structure Gr1I (zs : List Zn) (i : Int) : Prop where
  i0 : 0 ≤ i
  i1 : i ≤ zs.length
  m : ∀ z ∈ zs.take i.toNat, z.2.1.length ≤ 60
def gr1 : LoopAnn where
  α := Int × Int
  keep := [1]
  okeep := []
  nxt := 2000
  env := fun _ x => [(3, .dat I64 x.1), (4, .dat I64 x.2)]
  own := fun s _ => boxO s 1
  inv := fun s x => Gr1I (cDat (.sl ZoneT) s 1 0).out x.2
  mu := fun s x => List.length (α := Zn) (cDat (.sl ZoneT) s 1 0).out - x.2.toNat
  pick := some fun _ s => ((bDat I64 s 3).out, (bDat I64 s 4).out)
structure Gr2I (zs : List Zn) (i k : Int) : Prop where
  i0 : 0 ≤ i
  i1 : i < zs.length
  i2 : i ≤ 40
  k0 : 0 ≤ k
  m : (zs.getD i.toNat ZoneT.zero).2.1.length ≤ 60
def gr2 : LoopAnn where
  α := Int × Int
  keep := [1, 4]
  okeep := []
  nxt := 2500
  env := fun _ x => [(3, .dat I64 x.1), (5, .dat I64 x.2)]
  own := fun s _ => boxO s 1
  inv := fun s x => Gr2I (cDat (.sl ZoneT) s 1 0).out (bDat I64 s 4).out x.2
  mu := fun s x => 100 - x.2.toNat
  pick := some fun _ s => ((bDat I64 s 3).out, (bDat I64 s 5).out)
def gr3 : LoopAnn where
  α := Int × Int
  keep := [1]
  okeep := []
  nxt := 3000
  env := fun _ x => [(3, .dat I64 x.1), (6, .dat I64 x.2)]
  own := fun s _ => boxO s 1
  inv := fun _ x => 0 ≤ x.2
  mu := fun s x => List.length (α := Ft) (cDat (.sl FatT) s 1 1).out - x.2.toNat
  pick := some fun _ s => ((bDat I64 s 3).out, (bDat I64 s 6).out)
/-- as many as any of the first i has -/
structure MxI {α : Type} (g : α → Nat) (l : List α) (b : Int) (i m : Int) : Prop where
  i0 : 0 ≤ i
  i1 : i ≤ l.length
  b : b ≤ m
  m : ∀ z ∈ l.take i.toNat, (g z : Int) ≤ m
def zLen (z : Zn) : Nat := z.2.1.length
def fLen (f : Ft) : Nat := f.2.1.length
def mx1 : LoopAnn where
  α := Int × Int
  keep := [1, 3, 4, 6]
  okeep := [0, 1]
  nxt := 4000
  env := fun _ x => [(10, .dat I64 x.1), (9, .dat I64 x.2)]
  own := fun _ _ => []
  inv := fun s x => MxI zLen (cDat (.sl ZoneT) s 4 0).out 0 x.1 x.2
  mu := fun s x => List.length (α := Zn) (cDat (.sl ZoneT) s 4 0).out - x.1.toNat
  pick := some fun _ s => ((bDat I64 s 10).out, (bDat I64 s 9).out)
def mx2 : LoopAnn where
  α := Int × Int
  keep := [1, 3, 4, 6]
  okeep := [0, 1]
  nxt := 5000
  env := fun _ x => [(11, .dat I64 x.1), (9, .dat I64 x.2)]
  own := fun _ _ => []
  inv := fun s x => MxI fLen (cDat (.sl FatT) s 4 1).out (bDat I64 s 9).out x.1 x.2
  mu := fun s x => List.length (α := Ft) (cDat (.sl FatT) s 4 1).out - x.1.toNat
  pick := some fun _ s => ((bDat I64 s 11).out, (bDat I64 s 9).out)
end Go.Proofs.YtfhlceooobabcaaGreatDoor.Wn
namespace Go.Proofs.YtfhlceooobabcaaGreatDoor.Wn
open Go Go.Eng Go.Lb Go.Ad Wd
set_option maxRecDepth 100000
noncomputable def g58 : Cfg := { tab := Tb.tab, cons := [], inls := [], loops := [], cuts := [], unroll := false, arrs := [], keys := [] }
noncomputable def g65 : Cfg := { tab := Tb.tab, cons := [], inls := [(104, Tryz.f104), (105, Tryz.f105)], loops := [(1050002, idxL 3000 FatT fun s => adIs (capDat AdT s 1).out)], cuts := [], unroll := false, arrs := [], keys := [] }
noncomputable def g27 : Cfg := { tab := Tb.tab, cons := [(65, cFates)], inls := [(64, Tryz.f64)], loops := [], cuts := [], unroll := false, arrs := [], keys := [] }
noncomputable def g28 : Cfg := { tab := Tb.tab, cons := [(65, cFates)], inls := [(66, Tryz.f66), (67, Tryz.f67), (68, Tryz.f68), (69, Tryz.f69), (106, Tryz.f106), (107, Tryz.f107)], loops := [(1070002, idxL 3000 AdT fun s => badA (capDat PlanT s 1).out), (1080002, idxL 5000 I8 fun _ => badF)], cuts := [], unroll := false, arrs := [], keys := [] }
noncomputable def g24 : Cfg := { tab := Tb.tab, cons := [(25, cAns), (27, cFate2), (36, cCheck), (58, cAdr), (59, cNames)], inls := [], loops := [], cuts := [], unroll := true, arrs := [], keys := [] }
noncomputable def g5 : Cfg := { tab := Tb.tab, cons := [(24, cWk), (25, cAns), (26, cSameA), (27, cFate2), (28, cGood)], inls := [(7, Tryz.f7)], loops := [(80003, gr1), (80008, gr2), (80012, gr3), (5, mx1), (9, mx2)], cuts := [], unroll := false, arrs := [], keys := [] }
end Go.Proofs.YtfhlceooobabcaaGreatDoor.Wn
namespace Go.Proofs.YtfhlceooobabcaaGreatDoor.Wn
open Go Go.Eng Go.Lb Go.Ad Wd
set_option maxRecDepth 100000
theorem v58_eq : vcFn g58 300 Tryz.f58 cAdr = ( ∀ (x : Int × Unit), Wr (Bool.true = Bool.true) → (((4 : Int), ((2560 : Int), x.fst, (0 : Int), (0 : Int), (0 : Int), (0 : Int), (0 : Int), (0 : Int), ()), (80 : Int), ()), ()) = (((4 : Ty.El
  Go.Proofs.YtfhlceooobabcaaGreatDoor.Wd.I8), ((2560 : Ty.El Go.Proofs.YtfhlceooobabcaaGreatDoor.Wd.U16), x.fst, (0 : Ty.El Go.Proofs.YtfhlceooobabcaaGreatDoor.Wd.U16), (0 : Ty.El
  Go.Proofs.YtfhlceooobabcaaGreatDoor.Wd.U16), (0 : Ty.El Go.Proofs.YtfhlceooobabcaaGreatDoor.Wd.U16), (0 : Ty.El Go.Proofs.YtfhlceooobabcaaGreatDoor.Wd.U16), (0 : Ty.El Go.Proofs.YtfhlceooobabcaaGreatDoor.Wd.U16), (0 :
  Ty.El Go.Proofs.YtfhlceooobabcaaGreatDoor.Wd.U16), ()), (80 : Ty.El Go.Proofs.YtfhlceooobabcaaGreatDoor.Wd.I64), ()), ())) := by kernel_rfl
theorem v65_eq : vcFn g65 300 Tryz.f65 cFates.T = ( ∀ (x : (List (ByteArray × List (List (Int × (Int × Int × Int × Int × Int × Int × Int × Int × Unit) × Int × Unit)) × Unit) × List ((Int × (Int × Int × Int × Int × Int × Int × Int × Int × Unit) × Int × Unit) × List Int ×
  Unit) × Int × List Int × Unit) × (Int × (Int × Int × Int × Int × Int × Int × Int × Int × Unit) × Int × Unit) × Unit), Wr (typedB (Ty.cons Go.Proofs.YtfhlceooobabcaaGreatDoor.Wd.PlanT (Ty.cons
  Go.Proofs.YtfhlceooobabcaaGreatDoor.Wd.AdT Ty.unit)) x = Bool.true ∧ Bool.true = Bool.true) → (Wr (Go.Proofs.YtfhlceooobabcaaGreatDoor.Wd.IdxI (Go.Proofs.YtfhlceooobabcaaGreatDoor.Wd.adIs x.snd.fst) x.fst.snd.fst (0 :
  Int)) ∧ Wr ((0 : Int) = (0 : Int)) ∧ Wr (x.fst.snd.fst = x.fst.snd.fst) ∧ Wr (x.fst.snd.fst = x.fst.snd.fst) ∧ Wr ((↑(List.length x.fst.snd.fst) : Int) = (↑(List.length x.fst.snd.fst) : Int)) ∧ Wr (x.snd.fst.fst =
  x.snd.fst.fst) ∧ Wr (x.snd.fst.snd.fst.fst = x.snd.fst.snd.fst.fst) ∧ Wr (x.snd.fst.snd.fst.snd.fst = x.snd.fst.snd.fst.snd.fst) ∧ Wr (x.snd.fst.snd.fst.snd.snd.fst = x.snd.fst.snd.fst.snd.snd.fst) ∧ Wr
  (x.snd.fst.snd.fst.snd.snd.snd.fst = x.snd.fst.snd.fst.snd.snd.snd.fst) ∧ Wr (x.snd.fst.snd.fst.snd.snd.snd.snd.fst = x.snd.fst.snd.fst.snd.snd.snd.snd.fst) ∧ Wr (x.snd.fst.snd.fst.snd.snd.snd.snd.snd.fst =
  x.snd.fst.snd.fst.snd.snd.snd.snd.snd.fst) ∧ Wr (x.snd.fst.snd.fst.snd.snd.snd.snd.snd.snd.fst = x.snd.fst.snd.fst.snd.snd.snd.snd.snd.snd.fst) ∧ Wr (x.snd.fst.snd.fst.snd.snd.snd.snd.snd.snd.snd.fst =
  x.snd.fst.snd.fst.snd.snd.snd.snd.snd.snd.snd.fst) ∧ Wr (x.snd.fst.snd.snd.fst = x.snd.fst.snd.snd.fst) ∧ Wr (x.fst.fst = x.fst.fst) ∧ Wr (x.fst.snd.fst = x.fst.snd.fst) ∧ Wr (x.fst.snd.snd.fst = x.fst.snd.snd.fst) ∧ Wr
  (x.fst.snd.snd.snd.fst = x.fst.snd.snd.snd.fst)) ∧ ∀ (x_1 : Int), Wr (Go.Proofs.YtfhlceooobabcaaGreatDoor.Wd.IdxI (Go.Proofs.YtfhlceooobabcaaGreatDoor.Wd.adIs x.snd.fst) x.fst.snd.fst x_1) → bcase (Decidable.decide (x_1
  < (↑(List.length x.fst.snd.fst) : Int))) (Wr ((0 : Int) ≤ x_1) ∧ Wr (x_1 < (↑(List.length x.fst.snd.fst) : Int)) ∧ Wr (Bool.true = Bool.true) ∧ bcase (Ty.eqb (Ty.cons (Ty.int IntKind.i8) (Ty.cons (Ty.arr (8 : Nat)
  (Ty.int IntKind.u16)) (Ty.cons (Ty.int IntKind.i64) Ty.unit))) (List.getD x.fst.snd.fst (Int.toNat x_1) (Ty.zero Go.Proofs.YtfhlceooobabcaaGreatDoor.Wd.FatT)).fst x.snd.fst) (bcase (Decidable.decide (x_1 < (0 : Int)))
  ((nilL Int, ()) = (Go.Proofs.YtfhlceooobabcaaGreatDoor.Wd.fateRow x.fst x.snd.fst, ())) (Wr ((0 : Int) ≤ x_1) ∧ Wr (x_1 < (↑(List.length x.fst.snd.fst) : Int)) ∧ Wr (Bool.true = Bool.true) ∧ Wr (Bool.true = Bool.true) ∧
  (List.getD x.fst.snd.fst (Int.toNat x_1) (Ty.zero Go.Proofs.YtfhlceooobabcaaGreatDoor.Wd.FatT)).snd = (Go.Proofs.YtfhlceooobabcaaGreatDoor.Wd.fateRow x.fst x.snd.fst, ()))) (Wr
  (Go.Proofs.YtfhlceooobabcaaGreatDoor.Wd.IdxI (Go.Proofs.YtfhlceooobabcaaGreatDoor.Wd.adIs x.snd.fst) x.fst.snd.fst (IntKind.wrap IntKind.i64 (x_1 + (1 : Int)))) ∧ Wr (List.length x.fst.snd.fst - Int.toNat (IntKind.wrap
  IntKind.i64 (x_1 + (1 : Int))) < List.length x.fst.snd.fst - Int.toNat x_1) ∧ Wr (IntKind.wrap IntKind.i64 (x_1 + (1 : Int)) = IntKind.wrap IntKind.i64 (x_1 + (1 : Int))) ∧ Wr (x.fst.snd.fst = x.fst.snd.fst) ∧ Wr
  (x.fst.snd.fst = x.fst.snd.fst) ∧ Wr ((↑(List.length x.fst.snd.fst) : Int) = (↑(List.length x.fst.snd.fst) : Int)) ∧ Wr (x.snd.fst.fst = x.snd.fst.fst) ∧ Wr (x.snd.fst.snd.fst.fst = x.snd.fst.snd.fst.fst) ∧ Wr
  (x.snd.fst.snd.fst.snd.fst = x.snd.fst.snd.fst.snd.fst) ∧ Wr (x.snd.fst.snd.fst.snd.snd.fst = x.snd.fst.snd.fst.snd.snd.fst) ∧ Wr (x.snd.fst.snd.fst.snd.snd.snd.fst = x.snd.fst.snd.fst.snd.snd.snd.fst) ∧ Wr
  (x.snd.fst.snd.fst.snd.snd.snd.snd.fst = x.snd.fst.snd.fst.snd.snd.snd.snd.fst) ∧ Wr (x.snd.fst.snd.fst.snd.snd.snd.snd.snd.fst = x.snd.fst.snd.fst.snd.snd.snd.snd.snd.fst) ∧ Wr
  (x.snd.fst.snd.fst.snd.snd.snd.snd.snd.snd.fst = x.snd.fst.snd.fst.snd.snd.snd.snd.snd.snd.fst) ∧ Wr (x.snd.fst.snd.fst.snd.snd.snd.snd.snd.snd.snd.fst = x.snd.fst.snd.fst.snd.snd.snd.snd.snd.snd.snd.fst) ∧ Wr
  (x.snd.fst.snd.snd.fst = x.snd.fst.snd.snd.fst) ∧ Wr (x.fst.fst = x.fst.fst) ∧ Wr (x.fst.snd.fst = x.fst.snd.fst) ∧ Wr (x.fst.snd.snd.fst = x.fst.snd.snd.fst) ∧ Wr (x.fst.snd.snd.snd.fst = x.fst.snd.snd.snd.fst)))
  ((nilL Int, ()) = (Go.Proofs.YtfhlceooobabcaaGreatDoor.Wd.fateRow x.fst x.snd.fst, ()))) := by kernel_rfl
theorem v27_eq : vcFn g27 300 Tryz.f27 cFate2.T = ( ∀ (x : (List (ByteArray × List (List (Int × (Int × Int × Int × Int × Int × Int × Int × Int × Unit) × Int × Unit)) × Unit) × List ((Int × (Int × Int × Int × Int × Int × Int × Int × Int × Unit) × Int × Unit) × List Int ×
  Unit) × Int × List Int × Unit) × (Int × (Int × Int × Int × Int × Int × Int × Int × Int × Unit) × Int × Unit) × Int × Unit), Wr (typedB (Ty.cons Go.Proofs.YtfhlceooobabcaaGreatDoor.Wd.PlanT (Ty.cons
  Go.Proofs.YtfhlceooobabcaaGreatDoor.Wd.AdT (Ty.cons Go.Proofs.YtfhlceooobabcaaGreatDoor.Wd.I64 Ty.unit))) x = Bool.true ∧ Bool.true = Bool.true) → Wr (Bool.true = Bool.true) ∧ bcase (Decidable.decide ((↑(List.length
  (Go.Proofs.YtfhlceooobabcaaGreatDoor.Wd.fateRow x.fst x.snd.fst)) : Int) = (0 : Int))) (((1 : Int), ()) = (Go.Proofs.YtfhlceooobabcaaGreatDoor.Wd.fateF x.fst x.snd.fst x.snd.snd.fst, ())) (Wr ((0 : Int) ≤ Min.min
  (Max.max x.snd.snd.fst (0 : Int)) (IntKind.wrap IntKind.i64 ((↑(List.length (Go.Proofs.YtfhlceooobabcaaGreatDoor.Wd.fateRow x.fst x.snd.fst)) : Int) - (1 : Int)))) ∧ Wr (Min.min (Max.max x.snd.snd.fst (0 : Int))
  (IntKind.wrap IntKind.i64 ((↑(List.length (Go.Proofs.YtfhlceooobabcaaGreatDoor.Wd.fateRow x.fst x.snd.fst)) : Int) - (1 : Int))) < (↑(List.length (Go.Proofs.YtfhlceooobabcaaGreatDoor.Wd.fateRow x.fst x.snd.fst)) : Int))
  ∧ Wr (Bool.true = Bool.true) ∧ (List.getD (Go.Proofs.YtfhlceooobabcaaGreatDoor.Wd.fateRow x.fst x.snd.fst) (Int.toNat (Min.min (Max.max x.snd.snd.fst (0 : Int)) (IntKind.wrap IntKind.i64 ((↑(List.length
  (Go.Proofs.YtfhlceooobabcaaGreatDoor.Wd.fateRow x.fst x.snd.fst)) : Int) - (1 : Int))))) (0 : Int), ()) = (Go.Proofs.YtfhlceooobabcaaGreatDoor.Wd.fateF x.fst x.snd.fst x.snd.snd.fst, ()))) := by kernel_rfl
theorem v28_eq : vcFn g28 300 Tryz.f28 cGood.T = ( ∀ (x : (List (ByteArray × List (List (Int × (Int × Int × Int × Int × Int × Int × Int × Int × Unit) × Int × Unit)) × Unit) × List ((Int × (Int × Int × Int × Int × Int × Int × Int × Int × Unit) × Int × Unit) × List Int ×
  Unit) × Int × List Int × Unit) × List (Int × (Int × Int × Int × Int × Int × Int × Int × Int × Unit) × Int × Unit) × Unit), Wr (typedB (Ty.cons Go.Proofs.YtfhlceooobabcaaGreatDoor.Wd.PlanT (Ty.cons
  Go.Proofs.YtfhlceooobabcaaGreatDoor.Wd.AdL Ty.unit)) x = Bool.true ∧ Bool.true = Bool.true) → (Wr (Go.Proofs.YtfhlceooobabcaaGreatDoor.Wd.IdxI (badA x.fst) x.snd.fst (0 : Int)) ∧ Wr ((0 : Int) = (0 : Int)) ∧ Wr
  (x.snd.fst = x.snd.fst) ∧ Wr (x.snd.fst = x.snd.fst) ∧ Wr ((↑(List.length x.snd.fst) : Int) = (↑(List.length x.snd.fst) : Int)) ∧ Wr (x.fst.fst = x.fst.fst) ∧ Wr (x.fst.snd.fst = x.fst.snd.fst) ∧ Wr (x.fst.snd.snd.fst =
  x.fst.snd.snd.fst) ∧ Wr (x.fst.snd.snd.snd.fst = x.fst.snd.snd.snd.fst)) ∧ ∀ (x_1 : Int), Wr (Go.Proofs.YtfhlceooobabcaaGreatDoor.Wd.IdxI (badA x.fst) x.snd.fst x_1) → bcase (Decidable.decide (x_1 < (↑(List.length
  x.snd.fst) : Int))) (Wr ((0 : Int) ≤ x_1) ∧ Wr (x_1 < (↑(List.length x.snd.fst) : Int)) ∧ Wr (Bool.true = Bool.true) ∧ Wr (Bool.true = Bool.true) ∧ bcase (!Decidable.decide ((↑(List.length
  (Go.Proofs.YtfhlceooobabcaaGreatDoor.Wd.fateRow x.fst (List.getD x.snd.fst (Int.toNat x_1) (Ty.zero Go.Proofs.YtfhlceooobabcaaGreatDoor.Wd.AdT)))) : Int) = (0 : Int))) ((Wr (Go.Proofs.YtfhlceooobabcaaGreatDoor.Wd.IdxI
  badF (Go.Proofs.YtfhlceooobabcaaGreatDoor.Wd.fateRow x.fst (List.getD x.snd.fst (Int.toNat x_1) (Ty.zero Go.Proofs.YtfhlceooobabcaaGreatDoor.Wd.AdT))) (0 : Int)) ∧ Wr ((0 : Int) = (0 : Int)) ∧ Wr
  (Go.Proofs.YtfhlceooobabcaaGreatDoor.Wd.fateRow x.fst (List.getD x.snd.fst (Int.toNat x_1) (Ty.zero Go.Proofs.YtfhlceooobabcaaGreatDoor.Wd.AdT)) = Go.Proofs.YtfhlceooobabcaaGreatDoor.Wd.fateRow x.fst (List.getD
  x.snd.fst (Int.toNat x_1) (Ty.zero Go.Proofs.YtfhlceooobabcaaGreatDoor.Wd.AdT))) ∧ Wr (Go.Proofs.YtfhlceooobabcaaGreatDoor.Wd.fateRow x.fst (List.getD x.snd.fst (Int.toNat x_1) (Ty.zero
  Go.Proofs.YtfhlceooobabcaaGreatDoor.Wd.AdT)) = Go.Proofs.YtfhlceooobabcaaGreatDoor.Wd.fateRow x.fst (List.getD x.snd.fst (Int.toNat x_1) (Ty.zero Go.Proofs.YtfhlceooobabcaaGreatDoor.Wd.AdT))) ∧ Wr ((↑(List.length
  (Go.Proofs.YtfhlceooobabcaaGreatDoor.Wd.fateRow x.fst (List.getD x.snd.fst (Int.toNat x_1) (Ty.zero Go.Proofs.YtfhlceooobabcaaGreatDoor.Wd.AdT)))) : Int) = (↑(List.length (Go.Proofs.YtfhlceooobabcaaGreatDoor.Wd.fateRow
  x.fst (List.getD x.snd.fst (Int.toNat x_1) (Ty.zero Go.Proofs.YtfhlceooobabcaaGreatDoor.Wd.AdT)))) : Int)) ∧ Wr ((List.getD x.snd.fst (Int.toNat x_1) (Ty.zero Go.Proofs.YtfhlceooobabcaaGreatDoor.Wd.AdT)).fst =
  (List.getD x.snd.fst (Int.toNat x_1) (Ty.zero Go.Proofs.YtfhlceooobabcaaGreatDoor.Wd.AdT)).fst) ∧ Wr ((List.getD x.snd.fst (Int.toNat x_1) (Ty.zero Go.Proofs.YtfhlceooobabcaaGreatDoor.Wd.AdT)).snd.fst.fst = (List.getD
  x.snd.fst (Int.toNat x_1) (Ty.zero Go.Proofs.YtfhlceooobabcaaGreatDoor.Wd.AdT)).snd.fst.fst) ∧ Wr ((List.getD x.snd.fst (Int.toNat x_1) (Ty.zero Go.Proofs.YtfhlceooobabcaaGreatDoor.Wd.AdT)).snd.fst.snd.fst = (List.getD
  x.snd.fst (Int.toNat x_1) (Ty.zero Go.Proofs.YtfhlceooobabcaaGreatDoor.Wd.AdT)).snd.fst.snd.fst) ∧ Wr ((List.getD x.snd.fst (Int.toNat x_1) (Ty.zero Go.Proofs.YtfhlceooobabcaaGreatDoor.Wd.AdT)).snd.fst.snd.snd.fst =
  (List.getD x.snd.fst (Int.toNat x_1) (Ty.zero Go.Proofs.YtfhlceooobabcaaGreatDoor.Wd.AdT)).snd.fst.snd.snd.fst) ∧ Wr ((List.getD x.snd.fst (Int.toNat x_1) (Ty.zero
  Go.Proofs.YtfhlceooobabcaaGreatDoor.Wd.AdT)).snd.fst.snd.snd.snd.fst = (List.getD x.snd.fst (Int.toNat x_1) (Ty.zero Go.Proofs.YtfhlceooobabcaaGreatDoor.Wd.AdT)).snd.fst.snd.snd.snd.fst) ∧ Wr ((List.getD x.snd.fst
  (Int.toNat x_1) (Ty.zero Go.Proofs.YtfhlceooobabcaaGreatDoor.Wd.AdT)).snd.fst.snd.snd.snd.snd.fst = (List.getD x.snd.fst (Int.toNat x_1) (Ty.zero Go.Proofs.YtfhlceooobabcaaGreatDoor.Wd.AdT)).snd.fst.snd.snd.snd.snd.fst)
  ∧ Wr ((List.getD x.snd.fst (Int.toNat x_1) (Ty.zero Go.Proofs.YtfhlceooobabcaaGreatDoor.Wd.AdT)).snd.fst.snd.snd.snd.snd.snd.fst = (List.getD x.snd.fst (Int.toNat x_1) (Ty.zero
  Go.Proofs.YtfhlceooobabcaaGreatDoor.Wd.AdT)).snd.fst.snd.snd.snd.snd.snd.fst) ∧ Wr ((List.getD x.snd.fst (Int.toNat x_1) (Ty.zero Go.Proofs.YtfhlceooobabcaaGreatDoor.Wd.AdT)).snd.fst.snd.snd.snd.snd.snd.snd.fst =
  (List.getD x.snd.fst (Int.toNat x_1) (Ty.zero Go.Proofs.YtfhlceooobabcaaGreatDoor.Wd.AdT)).snd.fst.snd.snd.snd.snd.snd.snd.fst) ∧ Wr ((List.getD x.snd.fst (Int.toNat x_1) (Ty.zero
  Go.Proofs.YtfhlceooobabcaaGreatDoor.Wd.AdT)).snd.fst.snd.snd.snd.snd.snd.snd.snd.fst = (List.getD x.snd.fst (Int.toNat x_1) (Ty.zero Go.Proofs.YtfhlceooobabcaaGreatDoor.Wd.AdT)).snd.fst.snd.snd.snd.snd.snd.snd.snd.fst)
  ∧ Wr ((List.getD x.snd.fst (Int.toNat x_1) (Ty.zero Go.Proofs.YtfhlceooobabcaaGreatDoor.Wd.AdT)).snd.snd.fst = (List.getD x.snd.fst (Int.toNat x_1) (Ty.zero Go.Proofs.YtfhlceooobabcaaGreatDoor.Wd.AdT)).snd.snd.fst) ∧ Wr
  (x.fst.fst = x.fst.fst) ∧ Wr (x.fst.snd.fst = x.fst.snd.fst) ∧ Wr (x.fst.snd.snd.fst = x.fst.snd.snd.fst) ∧ Wr (x.fst.snd.snd.snd.fst = x.fst.snd.snd.snd.fst)) ∧ ∀ (x_2 : Int), Wr
  (Go.Proofs.YtfhlceooobabcaaGreatDoor.Wd.IdxI badF (Go.Proofs.YtfhlceooobabcaaGreatDoor.Wd.fateRow x.fst (List.getD x.snd.fst (Int.toNat x_1) (Ty.zero Go.Proofs.YtfhlceooobabcaaGreatDoor.Wd.AdT))) x_2) → bcase
  (Decidable.decide (x_2 < (↑(List.length (Go.Proofs.YtfhlceooobabcaaGreatDoor.Wd.fateRow x.fst (List.getD x.snd.fst (Int.toNat x_1) (Ty.zero Go.Proofs.YtfhlceooobabcaaGreatDoor.Wd.AdT)))) : Int))) (Wr ((0 : Int) ≤ x_2) ∧
  Wr (x_2 < (↑(List.length (Go.Proofs.YtfhlceooobabcaaGreatDoor.Wd.fateRow x.fst (List.getD x.snd.fst (Int.toNat x_1) (Ty.zero Go.Proofs.YtfhlceooobabcaaGreatDoor.Wd.AdT)))) : Int)) ∧ Wr (Bool.true = Bool.true) ∧ bcase
  (!Decidable.decide (List.getD (Go.Proofs.YtfhlceooobabcaaGreatDoor.Wd.fateRow x.fst (List.getD x.snd.fst (Int.toNat x_1) (Ty.zero Go.Proofs.YtfhlceooobabcaaGreatDoor.Wd.AdT))) (Int.toNat x_2) (0 : Int) = (0 : Int)))
  (bcase (Bool.false || Decidable.decide (x_2 ≥ (0 : Int))) ((!Decidable.decide (x_1 ≥ (0 : Int)), ()) = (!List.any x.snd.fst (badA x.fst), ())) (Wr (Go.Proofs.YtfhlceooobabcaaGreatDoor.Wd.IdxI (badA x.fst) x.snd.fst
  (IntKind.wrap IntKind.i64 (x_1 + (1 : Int)))) ∧ Wr (List.length x.snd.fst - Int.toNat (IntKind.wrap IntKind.i64 (x_1 + (1 : Int))) < List.length x.snd.fst - Int.toNat x_1) ∧ Wr (IntKind.wrap IntKind.i64 (x_1 + (1 :
  Int)) = IntKind.wrap IntKind.i64 (x_1 + (1 : Int))) ∧ Wr (x.snd.fst = x.snd.fst) ∧ Wr (x.snd.fst = x.snd.fst) ∧ Wr ((↑(List.length x.snd.fst) : Int) = (↑(List.length x.snd.fst) : Int)) ∧ Wr (x.fst.fst = x.fst.fst) ∧ Wr
  (x.fst.snd.fst = x.fst.snd.fst) ∧ Wr (x.fst.snd.snd.fst = x.fst.snd.snd.fst) ∧ Wr (x.fst.snd.snd.snd.fst = x.fst.snd.snd.snd.fst))) (Wr (Go.Proofs.YtfhlceooobabcaaGreatDoor.Wd.IdxI badF
  (Go.Proofs.YtfhlceooobabcaaGreatDoor.Wd.fateRow x.fst (List.getD x.snd.fst (Int.toNat x_1) (Ty.zero Go.Proofs.YtfhlceooobabcaaGreatDoor.Wd.AdT))) (IntKind.wrap IntKind.i64 (x_2 + (1 : Int)))) ∧ Wr (List.length
  (Go.Proofs.YtfhlceooobabcaaGreatDoor.Wd.fateRow x.fst (List.getD x.snd.fst (Int.toNat x_1) (Ty.zero Go.Proofs.YtfhlceooobabcaaGreatDoor.Wd.AdT))) - Int.toNat (IntKind.wrap IntKind.i64 (x_2 + (1 : Int))) < List.length
  (Go.Proofs.YtfhlceooobabcaaGreatDoor.Wd.fateRow x.fst (List.getD x.snd.fst (Int.toNat x_1) (Ty.zero Go.Proofs.YtfhlceooobabcaaGreatDoor.Wd.AdT))) - Int.toNat x_2) ∧ Wr (IntKind.wrap IntKind.i64 (x_2 + (1 : Int)) =
  IntKind.wrap IntKind.i64 (x_2 + (1 : Int))) ∧ Wr (Go.Proofs.YtfhlceooobabcaaGreatDoor.Wd.fateRow x.fst (List.getD x.snd.fst (Int.toNat x_1) (Ty.zero Go.Proofs.YtfhlceooobabcaaGreatDoor.Wd.AdT)) =
  Go.Proofs.YtfhlceooobabcaaGreatDoor.Wd.fateRow x.fst (List.getD x.snd.fst (Int.toNat x_1) (Ty.zero Go.Proofs.YtfhlceooobabcaaGreatDoor.Wd.AdT))) ∧ Wr (Go.Proofs.YtfhlceooobabcaaGreatDoor.Wd.fateRow x.fst (List.getD
  x.snd.fst (Int.toNat x_1) (Ty.zero Go.Proofs.YtfhlceooobabcaaGreatDoor.Wd.AdT)) = Go.Proofs.YtfhlceooobabcaaGreatDoor.Wd.fateRow x.fst (List.getD x.snd.fst (Int.toNat x_1) (Ty.zero
  Go.Proofs.YtfhlceooobabcaaGreatDoor.Wd.AdT))) ∧ Wr ((↑(List.length (Go.Proofs.YtfhlceooobabcaaGreatDoor.Wd.fateRow x.fst (List.getD x.snd.fst (Int.toNat x_1) (Ty.zero Go.Proofs.YtfhlceooobabcaaGreatDoor.Wd.AdT)))) :
  Int) = (↑(List.length (Go.Proofs.YtfhlceooobabcaaGreatDoor.Wd.fateRow x.fst (List.getD x.snd.fst (Int.toNat x_1) (Ty.zero Go.Proofs.YtfhlceooobabcaaGreatDoor.Wd.AdT)))) : Int)) ∧ Wr ((List.getD x.snd.fst (Int.toNat x_1)
  (Ty.zero Go.Proofs.YtfhlceooobabcaaGreatDoor.Wd.AdT)).fst = (List.getD x.snd.fst (Int.toNat x_1) (Ty.zero Go.Proofs.YtfhlceooobabcaaGreatDoor.Wd.AdT)).fst) ∧ Wr ((List.getD x.snd.fst (Int.toNat x_1) (Ty.zero
  Go.Proofs.YtfhlceooobabcaaGreatDoor.Wd.AdT)).snd.fst.fst = (List.getD x.snd.fst (Int.toNat x_1) (Ty.zero Go.Proofs.YtfhlceooobabcaaGreatDoor.Wd.AdT)).snd.fst.fst) ∧ Wr ((List.getD x.snd.fst (Int.toNat x_1) (Ty.zero
  Go.Proofs.YtfhlceooobabcaaGreatDoor.Wd.AdT)).snd.fst.snd.fst = (List.getD x.snd.fst (Int.toNat x_1) (Ty.zero Go.Proofs.YtfhlceooobabcaaGreatDoor.Wd.AdT)).snd.fst.snd.fst) ∧ Wr ((List.getD x.snd.fst (Int.toNat x_1)
  (Ty.zero Go.Proofs.YtfhlceooobabcaaGreatDoor.Wd.AdT)).snd.fst.snd.snd.fst = (List.getD x.snd.fst (Int.toNat x_1) (Ty.zero Go.Proofs.YtfhlceooobabcaaGreatDoor.Wd.AdT)).snd.fst.snd.snd.fst) ∧ Wr ((List.getD x.snd.fst
  (Int.toNat x_1) (Ty.zero Go.Proofs.YtfhlceooobabcaaGreatDoor.Wd.AdT)).snd.fst.snd.snd.snd.fst = (List.getD x.snd.fst (Int.toNat x_1) (Ty.zero Go.Proofs.YtfhlceooobabcaaGreatDoor.Wd.AdT)).snd.fst.snd.snd.snd.fst) ∧ Wr
  ((List.getD x.snd.fst (Int.toNat x_1) (Ty.zero Go.Proofs.YtfhlceooobabcaaGreatDoor.Wd.AdT)).snd.fst.snd.snd.snd.snd.fst = (List.getD x.snd.fst (Int.toNat x_1) (Ty.zero
  Go.Proofs.YtfhlceooobabcaaGreatDoor.Wd.AdT)).snd.fst.snd.snd.snd.snd.fst) ∧ Wr ((List.getD x.snd.fst (Int.toNat x_1) (Ty.zero Go.Proofs.YtfhlceooobabcaaGreatDoor.Wd.AdT)).snd.fst.snd.snd.snd.snd.snd.fst = (List.getD
  x.snd.fst (Int.toNat x_1) (Ty.zero Go.Proofs.YtfhlceooobabcaaGreatDoor.Wd.AdT)).snd.fst.snd.snd.snd.snd.snd.fst) ∧ Wr ((List.getD x.snd.fst (Int.toNat x_1) (Ty.zero
  Go.Proofs.YtfhlceooobabcaaGreatDoor.Wd.AdT)).snd.fst.snd.snd.snd.snd.snd.snd.fst = (List.getD x.snd.fst (Int.toNat x_1) (Ty.zero Go.Proofs.YtfhlceooobabcaaGreatDoor.Wd.AdT)).snd.fst.snd.snd.snd.snd.snd.snd.fst) ∧ Wr
  ((List.getD x.snd.fst (Int.toNat x_1) (Ty.zero Go.Proofs.YtfhlceooobabcaaGreatDoor.Wd.AdT)).snd.fst.snd.snd.snd.snd.snd.snd.snd.fst = (List.getD x.snd.fst (Int.toNat x_1) (Ty.zero
  Go.Proofs.YtfhlceooobabcaaGreatDoor.Wd.AdT)).snd.fst.snd.snd.snd.snd.snd.snd.snd.fst) ∧ Wr ((List.getD x.snd.fst (Int.toNat x_1) (Ty.zero Go.Proofs.YtfhlceooobabcaaGreatDoor.Wd.AdT)).snd.snd.fst = (List.getD x.snd.fst
  (Int.toNat x_1) (Ty.zero Go.Proofs.YtfhlceooobabcaaGreatDoor.Wd.AdT)).snd.snd.fst) ∧ Wr (x.fst.fst = x.fst.fst) ∧ Wr (x.fst.snd.fst = x.fst.snd.fst) ∧ Wr (x.fst.snd.snd.fst = x.fst.snd.snd.fst) ∧ Wr
  (x.fst.snd.snd.snd.fst = x.fst.snd.snd.snd.fst))) (Wr (Go.Proofs.YtfhlceooobabcaaGreatDoor.Wd.IdxI (badA x.fst) x.snd.fst (IntKind.wrap IntKind.i64 (x_1 + (1 : Int)))) ∧ Wr (List.length x.snd.fst - Int.toNat
  (IntKind.wrap IntKind.i64 (x_1 + (1 : Int))) < List.length x.snd.fst - Int.toNat x_1) ∧ Wr (IntKind.wrap IntKind.i64 (x_1 + (1 : Int)) = IntKind.wrap IntKind.i64 (x_1 + (1 : Int))) ∧ Wr (x.snd.fst = x.snd.fst) ∧ Wr
  (x.snd.fst = x.snd.fst) ∧ Wr ((↑(List.length x.snd.fst) : Int) = (↑(List.length x.snd.fst) : Int)) ∧ Wr (x.fst.fst = x.fst.fst) ∧ Wr (x.fst.snd.fst = x.fst.snd.fst) ∧ Wr (x.fst.snd.snd.fst = x.fst.snd.snd.fst) ∧ Wr
  (x.fst.snd.snd.snd.fst = x.fst.snd.snd.snd.fst))) ((!Decidable.decide (x_1 ≥ (0 : Int)), ()) = (!List.any x.snd.fst (badA x.fst), ()))) ((!Decidable.decide ((-1 : Int) ≥ (0 : Int)), ()) = (!List.any x.snd.fst (badA
  x.fst), ()))) := by kernel_rfl
theorem v5_eq : vcFn g5 300 Tryz.f5 ((cLs aSt)) = ( ∀ (x : (List (ByteArray × List (List (Int × (Int × Int × Int × Int × Int × Int × Int × Int × Unit) × Int × Unit)) × Unit) × List ((Int × (Int × Int × Int × Int × Int × Int × Int × Int × Unit) × Int × Unit) × List Int ×
  Unit) × Int × List Int × Unit) × ByteArray × (Int × (Int × Int × Int × Int × Int × Int × Int × Int × Unit) × Int × Unit) × Int × Unit), Wr (Sz.Bnd szL aSt x) → (Wr (Gr1I x.fst.fst (0 : Int)) ∧ Wr ((↑(List.length
  x.fst.snd.snd.snd.fst) : Int) = (↑(List.length x.fst.snd.snd.snd.fst) : Int)) ∧ Wr ((0 : Int) = (0 : Int)) ∧ Wr (x.fst.fst = x.fst.fst) ∧ Wr (x.fst.snd.fst = x.fst.snd.fst) ∧ Wr (x.fst.snd.snd.fst = x.fst.snd.snd.fst) ∧
  Wr (x.fst.snd.snd.snd.fst = x.fst.snd.snd.snd.fst) ∧ Wr (x.snd.snd.fst.fst = x.snd.snd.fst.fst) ∧ Wr (x.snd.snd.fst.snd.fst.fst = x.snd.snd.fst.snd.fst.fst) ∧ Wr (x.snd.snd.fst.snd.fst.snd.fst =
  x.snd.snd.fst.snd.fst.snd.fst) ∧ Wr (x.snd.snd.fst.snd.fst.snd.snd.fst = x.snd.snd.fst.snd.fst.snd.snd.fst) ∧ Wr (x.snd.snd.fst.snd.fst.snd.snd.snd.fst = x.snd.snd.fst.snd.fst.snd.snd.snd.fst) ∧ Wr
  (x.snd.snd.fst.snd.fst.snd.snd.snd.snd.fst = x.snd.snd.fst.snd.fst.snd.snd.snd.snd.fst) ∧ Wr (x.snd.snd.fst.snd.fst.snd.snd.snd.snd.snd.fst = x.snd.snd.fst.snd.fst.snd.snd.snd.snd.snd.fst) ∧ Wr
  (x.snd.snd.fst.snd.fst.snd.snd.snd.snd.snd.snd.fst = x.snd.snd.fst.snd.fst.snd.snd.snd.snd.snd.snd.fst) ∧ Wr (x.snd.snd.fst.snd.fst.snd.snd.snd.snd.snd.snd.snd.fst =
  x.snd.snd.fst.snd.fst.snd.snd.snd.snd.snd.snd.snd.fst) ∧ Wr (x.snd.snd.fst.snd.snd.fst = x.snd.snd.fst.snd.snd.fst) ∧ Wr (x.fst.fst = x.fst.fst) ∧ Wr (x.fst.snd.fst = x.fst.snd.fst) ∧ Wr (x.fst.snd.snd.fst =
  x.fst.snd.snd.fst) ∧ Wr (x.fst.snd.snd.snd.fst = x.fst.snd.snd.snd.fst)) ∧ ∀ (x_1 : Int × Int), Wr (Gr1I x.fst.fst x_1.snd) → bcase (Decidable.decide (x_1.snd < (↑(List.length x.fst.fst) : Int)) && Decidable.decide
  (x_1.snd ≤ (40 : Int))) (Wr ((0 : Int) ≤ x_1.snd) ∧ Wr (x_1.snd < (↑(List.length x.fst.fst) : Int)) ∧ Wr (Bool.true = Bool.true) ∧ Wr (Bool.true = Bool.true) ∧ Wr ((!Decidable.decide ((↑(List.length (List.getD x.fst.fst
  (Int.toNat x_1.snd) (Ty.zero Go.Proofs.YtfhlceooobabcaaGreatDoor.Wd.ZoneT)).snd.fst) : Int) > (60 : Int))) = Bool.true → (0 : Int) ≤ x_1.snd) ∧ Wr ((!Decidable.decide ((↑(List.length (List.getD x.fst.fst (Int.toNat
  x_1.snd) (Ty.zero Go.Proofs.YtfhlceooobabcaaGreatDoor.Wd.ZoneT)).snd.fst) : Int) > (60 : Int))) = Bool.true → x_1.snd < (↑(List.length x.fst.fst) : Int)) ∧ Wr ((!Decidable.decide ((↑(List.length (List.getD x.fst.fst
  (Int.toNat x_1.snd) (Ty.zero Go.Proofs.YtfhlceooobabcaaGreatDoor.Wd.ZoneT)).snd.fst) : Int) > (60 : Int))) = Bool.true → Bool.true = Bool.true) ∧ Wr ((!Decidable.decide ((↑(List.length (List.getD x.fst.fst (Int.toNat
  x_1.snd) (Ty.zero Go.Proofs.YtfhlceooobabcaaGreatDoor.Wd.ZoneT)).snd.fst) : Int) > (60 : Int))) = Bool.true → Bool.true = Bool.true) ∧ bcase (Decidable.decide ((↑(List.length (List.getD x.fst.fst (Int.toNat x_1.snd)
  (Ty.zero Go.Proofs.YtfhlceooobabcaaGreatDoor.Wd.ZoneT)).snd.fst) : Int) > (60 : Int)) || Decidable.decide ((↑(ByteArray.size (List.getD x.fst.fst (Int.toNat x_1.snd) (Ty.zero
  Go.Proofs.YtfhlceooobabcaaGreatDoor.Wd.ZoneT)).fst) : Int) > (400 : Int))) (Wr True ∧ (Bool.true, ()) = (Bool.true, ())) ((Wr (Gr2I x.fst.fst x_1.snd (0 : Int)) ∧ Wr (x_1.fst = x_1.fst) ∧ Wr ((0 : Int) = (0 : Int)) ∧ Wr
  (x_1.snd = x_1.snd) ∧ Wr (x.fst.fst = x.fst.fst) ∧ Wr (x.fst.snd.fst = x.fst.snd.fst) ∧ Wr (x.fst.snd.snd.fst = x.fst.snd.snd.fst) ∧ Wr (x.fst.snd.snd.snd.fst = x.fst.snd.snd.snd.fst) ∧ Wr (x.snd.snd.fst.fst =
  x.snd.snd.fst.fst) ∧ Wr (x.snd.snd.fst.snd.fst.fst = x.snd.snd.fst.snd.fst.fst) ∧ Wr (x.snd.snd.fst.snd.fst.snd.fst = x.snd.snd.fst.snd.fst.snd.fst) ∧ Wr (x.snd.snd.fst.snd.fst.snd.snd.fst =
  x.snd.snd.fst.snd.fst.snd.snd.fst) ∧ Wr (x.snd.snd.fst.snd.fst.snd.snd.snd.fst = x.snd.snd.fst.snd.fst.snd.snd.snd.fst) ∧ Wr (x.snd.snd.fst.snd.fst.snd.snd.snd.snd.fst = x.snd.snd.fst.snd.fst.snd.snd.snd.snd.fst) ∧ Wr
  (x.snd.snd.fst.snd.fst.snd.snd.snd.snd.snd.fst = x.snd.snd.fst.snd.fst.snd.snd.snd.snd.snd.fst) ∧ Wr (x.snd.snd.fst.snd.fst.snd.snd.snd.snd.snd.snd.fst = x.snd.snd.fst.snd.fst.snd.snd.snd.snd.snd.snd.fst) ∧ Wr
  (x.snd.snd.fst.snd.fst.snd.snd.snd.snd.snd.snd.snd.fst = x.snd.snd.fst.snd.fst.snd.snd.snd.snd.snd.snd.snd.fst) ∧ Wr (x.snd.snd.fst.snd.snd.fst = x.snd.snd.fst.snd.snd.fst) ∧ Wr (x.fst.fst = x.fst.fst) ∧ Wr
  (x.fst.snd.fst = x.fst.snd.fst) ∧ Wr (x.fst.snd.snd.fst = x.fst.snd.snd.fst) ∧ Wr (x.fst.snd.snd.snd.fst = x.fst.snd.snd.snd.fst)) ∧ ∀ (x_2 : Int × Int), Wr (Gr2I x.fst.fst x_1.snd x_2.snd) → Wr ((0 : Int) ≤ x_1.snd) ∧
  Wr (x_1.snd < (↑(List.length x.fst.fst) : Int)) ∧ Wr (Bool.true = Bool.true) ∧ Wr (Bool.true = Bool.true) ∧ bcase (Decidable.decide (x_2.snd < (↑(List.length (List.getD x.fst.fst (Int.toNat x_1.snd) (Ty.zero
  Go.Proofs.YtfhlceooobabcaaGreatDoor.Wd.ZoneT)).snd.fst) : Int))) (Wr ((0 : Int) ≤ x_1.snd) ∧ Wr (x_1.snd < (↑(List.length x.fst.fst) : Int)) ∧ Wr (Bool.true = Bool.true) ∧ Wr (Bool.true = Bool.true) ∧ Wr ((0 : Int) ≤
  x_2.snd) ∧ Wr (x_2.snd < (↑(List.length (List.getD x.fst.fst (Int.toNat x_1.snd) (Ty.zero Go.Proofs.YtfhlceooobabcaaGreatDoor.Wd.ZoneT)).snd.fst) : Int)) ∧ Wr (Bool.true = Bool.true) ∧ Wr (Gr2I x.fst.fst x_1.snd
  (IntKind.wrap IntKind.i64 (x_2.snd + (1 : Int)))) ∧ Wr ((100 : Nat) - Int.toNat (IntKind.wrap IntKind.i64 (x_2.snd + (1 : Int))) < (100 : Nat) - Int.toNat x_2.snd) ∧ Wr (IntKind.wrap IntKind.i64 (x_2.fst + Min.min
  (↑(List.length (List.getD (List.getD x.fst.fst (Int.toNat x_1.snd) (Ty.zero Go.Proofs.YtfhlceooobabcaaGreatDoor.Wd.ZoneT)).snd.fst (Int.toNat x_2.snd) (Ty.zero Go.Proofs.YtfhlceooobabcaaGreatDoor.Wd.AdL))) : Int) (1000
  : Int)) = IntKind.wrap IntKind.i64 (x_2.fst + Min.min (↑(List.length (List.getD (List.getD x.fst.fst (Int.toNat x_1.snd) (Ty.zero Go.Proofs.YtfhlceooobabcaaGreatDoor.Wd.ZoneT)).snd.fst (Int.toNat x_2.snd) (Ty.zero
  Go.Proofs.YtfhlceooobabcaaGreatDoor.Wd.AdL))) : Int) (1000 : Int))) ∧ Wr (IntKind.wrap IntKind.i64 (x_2.snd + (1 : Int)) = IntKind.wrap IntKind.i64 (x_2.snd + (1 : Int))) ∧ Wr (x_1.snd = x_1.snd) ∧ Wr (x.fst.fst =
  x.fst.fst) ∧ Wr (x.fst.snd.fst = x.fst.snd.fst) ∧ Wr (x.fst.snd.snd.fst = x.fst.snd.snd.fst) ∧ Wr (x.fst.snd.snd.snd.fst = x.fst.snd.snd.snd.fst) ∧ Wr (x.snd.snd.fst.fst = x.snd.snd.fst.fst) ∧ Wr
  (x.snd.snd.fst.snd.fst.fst = x.snd.snd.fst.snd.fst.fst) ∧ Wr (x.snd.snd.fst.snd.fst.snd.fst = x.snd.snd.fst.snd.fst.snd.fst) ∧ Wr (x.snd.snd.fst.snd.fst.snd.snd.fst = x.snd.snd.fst.snd.fst.snd.snd.fst) ∧ Wr
  (x.snd.snd.fst.snd.fst.snd.snd.snd.fst = x.snd.snd.fst.snd.fst.snd.snd.snd.fst) ∧ Wr (x.snd.snd.fst.snd.fst.snd.snd.snd.snd.fst = x.snd.snd.fst.snd.fst.snd.snd.snd.snd.fst) ∧ Wr
  (x.snd.snd.fst.snd.fst.snd.snd.snd.snd.snd.fst = x.snd.snd.fst.snd.fst.snd.snd.snd.snd.snd.fst) ∧ Wr (x.snd.snd.fst.snd.fst.snd.snd.snd.snd.snd.snd.fst = x.snd.snd.fst.snd.fst.snd.snd.snd.snd.snd.snd.fst) ∧ Wr
  (x.snd.snd.fst.snd.fst.snd.snd.snd.snd.snd.snd.snd.fst = x.snd.snd.fst.snd.fst.snd.snd.snd.snd.snd.snd.snd.fst) ∧ Wr (x.snd.snd.fst.snd.snd.fst = x.snd.snd.fst.snd.snd.fst) ∧ Wr (x.fst.fst = x.fst.fst) ∧ Wr
  (x.fst.snd.fst = x.fst.snd.fst) ∧ Wr (x.fst.snd.snd.fst = x.fst.snd.snd.fst) ∧ Wr (x.fst.snd.snd.snd.fst = x.fst.snd.snd.snd.fst)) (Wr (Gr1I x.fst.fst (IntKind.wrap IntKind.i64 (x_1.snd + (1 : Int)))) ∧ Wr (List.length
  x.fst.fst - Int.toNat (IntKind.wrap IntKind.i64 (x_1.snd + (1 : Int))) < List.length x.fst.fst - Int.toNat x_1.snd) ∧ Wr (x_2.fst = x_2.fst) ∧ Wr (IntKind.wrap IntKind.i64 (x_1.snd + (1 : Int)) = IntKind.wrap
  IntKind.i64 (x_1.snd + (1 : Int))) ∧ Wr (x.fst.fst = x.fst.fst) ∧ Wr (x.fst.snd.fst = x.fst.snd.fst) ∧ Wr (x.fst.snd.snd.fst = x.fst.snd.snd.fst) ∧ Wr (x.fst.snd.snd.snd.fst = x.fst.snd.snd.snd.fst) ∧ Wr
  (x.snd.snd.fst.fst = x.snd.snd.fst.fst) ∧ Wr (x.snd.snd.fst.snd.fst.fst = x.snd.snd.fst.snd.fst.fst) ∧ Wr (x.snd.snd.fst.snd.fst.snd.fst = x.snd.snd.fst.snd.fst.snd.fst) ∧ Wr (x.snd.snd.fst.snd.fst.snd.snd.fst =
  x.snd.snd.fst.snd.fst.snd.snd.fst) ∧ Wr (x.snd.snd.fst.snd.fst.snd.snd.snd.fst = x.snd.snd.fst.snd.fst.snd.snd.snd.fst) ∧ Wr (x.snd.snd.fst.snd.fst.snd.snd.snd.snd.fst = x.snd.snd.fst.snd.fst.snd.snd.snd.snd.fst) ∧ Wr
  (x.snd.snd.fst.snd.fst.snd.snd.snd.snd.snd.fst = x.snd.snd.fst.snd.fst.snd.snd.snd.snd.snd.fst) ∧ Wr (x.snd.snd.fst.snd.fst.snd.snd.snd.snd.snd.snd.fst = x.snd.snd.fst.snd.fst.snd.snd.snd.snd.snd.snd.fst) ∧ Wr
  (x.snd.snd.fst.snd.fst.snd.snd.snd.snd.snd.snd.snd.fst = x.snd.snd.fst.snd.fst.snd.snd.snd.snd.snd.snd.snd.fst) ∧ Wr (x.snd.snd.fst.snd.snd.fst = x.snd.snd.fst.snd.snd.fst) ∧ Wr (x.fst.fst = x.fst.fst) ∧ Wr
  (x.fst.snd.fst = x.fst.snd.fst) ∧ Wr (x.fst.snd.snd.fst = x.fst.snd.snd.fst) ∧ Wr (x.fst.snd.snd.snd.fst = x.fst.snd.snd.snd.fst)))) ((Wr ((0 : Int) ≤ (0 : Int)) ∧ Wr (x_1.fst = x_1.fst) ∧ Wr ((0 : Int) = (0 : Int)) ∧
  Wr (x.fst.fst = x.fst.fst) ∧ Wr (x.fst.snd.fst = x.fst.snd.fst) ∧ Wr (x.fst.snd.snd.fst = x.fst.snd.snd.fst) ∧ Wr (x.fst.snd.snd.snd.fst = x.fst.snd.snd.snd.fst) ∧ Wr (x.snd.snd.fst.fst = x.snd.snd.fst.fst) ∧ Wr
  (x.snd.snd.fst.snd.fst.fst = x.snd.snd.fst.snd.fst.fst) ∧ Wr (x.snd.snd.fst.snd.fst.snd.fst = x.snd.snd.fst.snd.fst.snd.fst) ∧ Wr (x.snd.snd.fst.snd.fst.snd.snd.fst = x.snd.snd.fst.snd.fst.snd.snd.fst) ∧ Wr
  (x.snd.snd.fst.snd.fst.snd.snd.snd.fst = x.snd.snd.fst.snd.fst.snd.snd.snd.fst) ∧ Wr (x.snd.snd.fst.snd.fst.snd.snd.snd.snd.fst = x.snd.snd.fst.snd.fst.snd.snd.snd.snd.fst) ∧ Wr
  (x.snd.snd.fst.snd.fst.snd.snd.snd.snd.snd.fst = x.snd.snd.fst.snd.fst.snd.snd.snd.snd.snd.fst) ∧ Wr (x.snd.snd.fst.snd.fst.snd.snd.snd.snd.snd.snd.fst = x.snd.snd.fst.snd.fst.snd.snd.snd.snd.snd.snd.fst) ∧ Wr
  (x.snd.snd.fst.snd.fst.snd.snd.snd.snd.snd.snd.snd.fst = x.snd.snd.fst.snd.fst.snd.snd.snd.snd.snd.snd.snd.fst) ∧ Wr (x.snd.snd.fst.snd.snd.fst = x.snd.snd.fst.snd.snd.fst) ∧ Wr (x.fst.fst = x.fst.fst) ∧ Wr
  (x.fst.snd.fst = x.fst.snd.fst) ∧ Wr (x.fst.snd.snd.fst = x.fst.snd.snd.fst) ∧ Wr (x.fst.snd.snd.snd.fst = x.fst.snd.snd.snd.fst)) ∧ ∀ (x_2 : Int × Int), Wr ((0 : Int) ≤ x_2.snd) → bcase (Decidable.decide (x_2.snd <
  (↑(List.length x.fst.snd.fst) : Int)) && Decidable.decide (x_2.snd ≤ (100 : Int))) (Wr ((0 : Int) ≤ x_2.snd) ∧ Wr (x_2.snd < (↑(List.length x.fst.snd.fst) : Int)) ∧ Wr (Bool.true = Bool.true) ∧ Wr (Bool.true =
  Bool.true) ∧ Wr ((0 : Int) ≤ IntKind.wrap IntKind.i64 (x_2.snd + (1 : Int))) ∧ Wr (List.length x.fst.snd.fst - Int.toNat (IntKind.wrap IntKind.i64 (x_2.snd + (1 : Int))) < List.length x.fst.snd.fst - Int.toNat x_2.snd)
  ∧ Wr (IntKind.wrap IntKind.i64 (x_2.fst + Min.min (↑(List.length (List.getD x.fst.snd.fst (Int.toNat x_2.snd) (Ty.zero Go.Proofs.YtfhlceooobabcaaGreatDoor.Wd.FatT)).snd.fst) : Int) (1000 : Int)) = IntKind.wrap
  IntKind.i64 (x_2.fst + Min.min (↑(List.length (List.getD x.fst.snd.fst (Int.toNat x_2.snd) (Ty.zero Go.Proofs.YtfhlceooobabcaaGreatDoor.Wd.FatT)).snd.fst) : Int) (1000 : Int))) ∧ Wr (IntKind.wrap IntKind.i64 (x_2.snd +
  (1 : Int)) = IntKind.wrap IntKind.i64 (x_2.snd + (1 : Int))) ∧ Wr (x.fst.fst = x.fst.fst) ∧ Wr (x.fst.snd.fst = x.fst.snd.fst) ∧ Wr (x.fst.snd.snd.fst = x.fst.snd.snd.fst) ∧ Wr (x.fst.snd.snd.snd.fst =
  x.fst.snd.snd.snd.fst) ∧ Wr (x.snd.snd.fst.fst = x.snd.snd.fst.fst) ∧ Wr (x.snd.snd.fst.snd.fst.fst = x.snd.snd.fst.snd.fst.fst) ∧ Wr (x.snd.snd.fst.snd.fst.snd.fst = x.snd.snd.fst.snd.fst.snd.fst) ∧ Wr
  (x.snd.snd.fst.snd.fst.snd.snd.fst = x.snd.snd.fst.snd.fst.snd.snd.fst) ∧ Wr (x.snd.snd.fst.snd.fst.snd.snd.snd.fst = x.snd.snd.fst.snd.fst.snd.snd.snd.fst) ∧ Wr (x.snd.snd.fst.snd.fst.snd.snd.snd.snd.fst =
  x.snd.snd.fst.snd.fst.snd.snd.snd.snd.fst) ∧ Wr (x.snd.snd.fst.snd.fst.snd.snd.snd.snd.snd.fst = x.snd.snd.fst.snd.fst.snd.snd.snd.snd.snd.fst) ∧ Wr (x.snd.snd.fst.snd.fst.snd.snd.snd.snd.snd.snd.fst =
  x.snd.snd.fst.snd.fst.snd.snd.snd.snd.snd.snd.fst) ∧ Wr (x.snd.snd.fst.snd.fst.snd.snd.snd.snd.snd.snd.snd.fst = x.snd.snd.fst.snd.fst.snd.snd.snd.snd.snd.snd.snd.fst) ∧ Wr (x.snd.snd.fst.snd.snd.fst =
  x.snd.snd.fst.snd.snd.fst) ∧ Wr (x.fst.fst = x.fst.fst) ∧ Wr (x.fst.snd.fst = x.fst.snd.fst) ∧ Wr (x.fst.snd.snd.fst = x.fst.snd.snd.fst) ∧ Wr (x.fst.snd.snd.snd.fst = x.fst.snd.snd.snd.fst)) (bcase (Decidable.decide
  ((↑(List.length x.fst.fst) : Int) > (40 : Int)) || Decidable.decide ((↑(List.length x.fst.snd.fst) : Int) > (100 : Int)) || Decidable.decide (x_2.fst > (3000 : Int)) || Decidable.decide ((↑(ByteArray.size x.snd.fst) :
  Int) > (400 : Int)) || Decidable.decide (x.snd.snd.snd.fst < (0 : Int))) (Wr True ∧ (Bool.true, ()) = (Bool.true, ())) ((Wr (MxI zLen x.fst.fst (0 : Int) (0 : Int) (0 : Int)) ∧ Wr ((0 : Int) = (0 : Int)) ∧ Wr ((0 : Int)
  = (0 : Int)) ∧ Wr (x.snd.fst = x.snd.fst) ∧ Wr (x.snd.snd.snd.fst = x.snd.snd.snd.fst) ∧ Wr (x.fst.fst = x.fst.fst) ∧ Wr (x.fst.snd.fst = x.fst.snd.fst) ∧ Wr (x.fst.snd.snd.fst = x.fst.snd.snd.fst) ∧ Wr
  (x.fst.snd.snd.snd.fst = x.fst.snd.snd.snd.fst) ∧ Wr (x.snd.snd.fst.fst = x.snd.snd.fst.fst) ∧ Wr (x.snd.snd.fst.snd.fst.fst = x.snd.snd.fst.snd.fst.fst) ∧ Wr (x.snd.snd.fst.snd.fst.snd.fst =
  x.snd.snd.fst.snd.fst.snd.fst) ∧ Wr (x.snd.snd.fst.snd.fst.snd.snd.fst = x.snd.snd.fst.snd.fst.snd.snd.fst) ∧ Wr (x.snd.snd.fst.snd.fst.snd.snd.snd.fst = x.snd.snd.fst.snd.fst.snd.snd.snd.fst) ∧ Wr
  (x.snd.snd.fst.snd.fst.snd.snd.snd.snd.fst = x.snd.snd.fst.snd.fst.snd.snd.snd.snd.fst) ∧ Wr (x.snd.snd.fst.snd.fst.snd.snd.snd.snd.snd.fst = x.snd.snd.fst.snd.fst.snd.snd.snd.snd.snd.fst) ∧ Wr
  (x.snd.snd.fst.snd.fst.snd.snd.snd.snd.snd.snd.fst = x.snd.snd.fst.snd.fst.snd.snd.snd.snd.snd.snd.fst) ∧ Wr (x.snd.snd.fst.snd.fst.snd.snd.snd.snd.snd.snd.snd.fst =
  x.snd.snd.fst.snd.fst.snd.snd.snd.snd.snd.snd.snd.fst) ∧ Wr (x.snd.snd.fst.snd.snd.fst = x.snd.snd.fst.snd.snd.fst)) ∧ ∀ (x_3 : Int × Int), Wr (MxI zLen x.fst.fst (0 : Int) x_3.fst x_3.snd) → bcase (Decidable.decide
  (x_3.fst < (↑(List.length x.fst.fst) : Int))) (Wr ((0 : Int) ≤ x_3.fst) ∧ Wr (x_3.fst < (↑(List.length x.fst.fst) : Int)) ∧ Wr (Bool.true = Bool.true) ∧ Wr (Bool.true = Bool.true) ∧ Wr (MxI zLen x.fst.fst (0 : Int)
  (IntKind.wrap IntKind.i64 (x_3.fst + (1 : Int))) (Max.max x_3.snd (↑(List.length (List.getD x.fst.fst (Int.toNat x_3.fst) (Ty.zero Go.Proofs.YtfhlceooobabcaaGreatDoor.Wd.ZoneT)).snd.fst) : Int))) ∧ Wr (List.length
  x.fst.fst - Int.toNat (IntKind.wrap IntKind.i64 (x_3.fst + (1 : Int))) < List.length x.fst.fst - Int.toNat x_3.fst) ∧ Wr (IntKind.wrap IntKind.i64 (x_3.fst + (1 : Int)) = IntKind.wrap IntKind.i64 (x_3.fst + (1 : Int)))
  ∧ Wr (Max.max x_3.snd (↑(List.length (List.getD x.fst.fst (Int.toNat x_3.fst) (Ty.zero Go.Proofs.YtfhlceooobabcaaGreatDoor.Wd.ZoneT)).snd.fst) : Int) = Max.max x_3.snd (↑(List.length (List.getD x.fst.fst (Int.toNat
  x_3.fst) (Ty.zero Go.Proofs.YtfhlceooobabcaaGreatDoor.Wd.ZoneT)).snd.fst) : Int)) ∧ Wr (x.snd.fst = x.snd.fst) ∧ Wr (x.snd.snd.snd.fst = x.snd.snd.snd.fst) ∧ Wr (x.fst.fst = x.fst.fst) ∧ Wr (x.fst.snd.fst =
  x.fst.snd.fst) ∧ Wr (x.fst.snd.snd.fst = x.fst.snd.snd.fst) ∧ Wr (x.fst.snd.snd.snd.fst = x.fst.snd.snd.snd.fst) ∧ Wr (x.snd.snd.fst.fst = x.snd.snd.fst.fst) ∧ Wr (x.snd.snd.fst.snd.fst.fst = x.snd.snd.fst.snd.fst.fst)
  ∧ Wr (x.snd.snd.fst.snd.fst.snd.fst = x.snd.snd.fst.snd.fst.snd.fst) ∧ Wr (x.snd.snd.fst.snd.fst.snd.snd.fst = x.snd.snd.fst.snd.fst.snd.snd.fst) ∧ Wr (x.snd.snd.fst.snd.fst.snd.snd.snd.fst =
  x.snd.snd.fst.snd.fst.snd.snd.snd.fst) ∧ Wr (x.snd.snd.fst.snd.fst.snd.snd.snd.snd.fst = x.snd.snd.fst.snd.fst.snd.snd.snd.snd.fst) ∧ Wr (x.snd.snd.fst.snd.fst.snd.snd.snd.snd.snd.fst =
  x.snd.snd.fst.snd.fst.snd.snd.snd.snd.snd.fst) ∧ Wr (x.snd.snd.fst.snd.fst.snd.snd.snd.snd.snd.snd.fst = x.snd.snd.fst.snd.fst.snd.snd.snd.snd.snd.snd.fst) ∧ Wr (x.snd.snd.fst.snd.fst.snd.snd.snd.snd.snd.snd.snd.fst =
  x.snd.snd.fst.snd.fst.snd.snd.snd.snd.snd.snd.snd.fst) ∧ Wr (x.snd.snd.fst.snd.snd.fst = x.snd.snd.fst.snd.snd.fst)) ((Wr (MxI fLen x.fst.snd.fst x_3.snd (0 : Int) x_3.snd) ∧ Wr ((0 : Int) = (0 : Int)) ∧ Wr (x_3.snd =
  x_3.snd) ∧ Wr (x.snd.fst = x.snd.fst) ∧ Wr (x.snd.snd.snd.fst = x.snd.snd.snd.fst) ∧ Wr (x.fst.fst = x.fst.fst) ∧ Wr (x.fst.snd.fst = x.fst.snd.fst) ∧ Wr (x.fst.snd.snd.fst = x.fst.snd.snd.fst) ∧ Wr
  (x.fst.snd.snd.snd.fst = x.fst.snd.snd.snd.fst) ∧ Wr (x.snd.snd.fst.fst = x.snd.snd.fst.fst) ∧ Wr (x.snd.snd.fst.snd.fst.fst = x.snd.snd.fst.snd.fst.fst) ∧ Wr (x.snd.snd.fst.snd.fst.snd.fst =
  x.snd.snd.fst.snd.fst.snd.fst) ∧ Wr (x.snd.snd.fst.snd.fst.snd.snd.fst = x.snd.snd.fst.snd.fst.snd.snd.fst) ∧ Wr (x.snd.snd.fst.snd.fst.snd.snd.snd.fst = x.snd.snd.fst.snd.fst.snd.snd.snd.fst) ∧ Wr
  (x.snd.snd.fst.snd.fst.snd.snd.snd.snd.fst = x.snd.snd.fst.snd.fst.snd.snd.snd.snd.fst) ∧ Wr (x.snd.snd.fst.snd.fst.snd.snd.snd.snd.snd.fst = x.snd.snd.fst.snd.fst.snd.snd.snd.snd.snd.fst) ∧ Wr
  (x.snd.snd.fst.snd.fst.snd.snd.snd.snd.snd.snd.fst = x.snd.snd.fst.snd.fst.snd.snd.snd.snd.snd.snd.fst) ∧ Wr (x.snd.snd.fst.snd.fst.snd.snd.snd.snd.snd.snd.snd.fst =
  x.snd.snd.fst.snd.fst.snd.snd.snd.snd.snd.snd.snd.fst) ∧ Wr (x.snd.snd.fst.snd.snd.fst = x.snd.snd.fst.snd.snd.fst)) ∧ ∀ (x_4 : Int × Int), Wr (MxI fLen x.fst.snd.fst x_3.snd x_4.fst x_4.snd) → bcase (Decidable.decide
  (x_4.fst < (↑(List.length x.fst.snd.fst) : Int))) (Wr ((0 : Int) ≤ x_4.fst) ∧ Wr (x_4.fst < (↑(List.length x.fst.snd.fst) : Int)) ∧ Wr (Bool.true = Bool.true) ∧ Wr (Bool.true = Bool.true) ∧ Wr (MxI fLen x.fst.snd.fst
  x_3.snd (IntKind.wrap IntKind.i64 (x_4.fst + (1 : Int))) (Max.max x_4.snd (↑(List.length (List.getD x.fst.snd.fst (Int.toNat x_4.fst) (Ty.zero Go.Proofs.YtfhlceooobabcaaGreatDoor.Wd.FatT)).snd.fst) : Int))) ∧ Wr
  (List.length x.fst.snd.fst - Int.toNat (IntKind.wrap IntKind.i64 (x_4.fst + (1 : Int))) < List.length x.fst.snd.fst - Int.toNat x_4.fst) ∧ Wr (IntKind.wrap IntKind.i64 (x_4.fst + (1 : Int)) = IntKind.wrap IntKind.i64
  (x_4.fst + (1 : Int))) ∧ Wr (Max.max x_4.snd (↑(List.length (List.getD x.fst.snd.fst (Int.toNat x_4.fst) (Ty.zero Go.Proofs.YtfhlceooobabcaaGreatDoor.Wd.FatT)).snd.fst) : Int) = Max.max x_4.snd (↑(List.length (List.getD
  x.fst.snd.fst (Int.toNat x_4.fst) (Ty.zero Go.Proofs.YtfhlceooobabcaaGreatDoor.Wd.FatT)).snd.fst) : Int)) ∧ Wr (x.snd.fst = x.snd.fst) ∧ Wr (x.snd.snd.snd.fst = x.snd.snd.snd.fst) ∧ Wr (x.fst.fst = x.fst.fst) ∧ Wr
  (x.fst.snd.fst = x.fst.snd.fst) ∧ Wr (x.fst.snd.snd.fst = x.fst.snd.snd.fst) ∧ Wr (x.fst.snd.snd.snd.fst = x.fst.snd.snd.snd.fst) ∧ Wr (x.snd.snd.fst.fst = x.snd.snd.fst.fst) ∧ Wr (x.snd.snd.fst.snd.fst.fst =
  x.snd.snd.fst.snd.fst.fst) ∧ Wr (x.snd.snd.fst.snd.fst.snd.fst = x.snd.snd.fst.snd.fst.snd.fst) ∧ Wr (x.snd.snd.fst.snd.fst.snd.snd.fst = x.snd.snd.fst.snd.fst.snd.snd.fst) ∧ Wr (x.snd.snd.fst.snd.fst.snd.snd.snd.fst =
  x.snd.snd.fst.snd.fst.snd.snd.snd.fst) ∧ Wr (x.snd.snd.fst.snd.fst.snd.snd.snd.snd.fst = x.snd.snd.fst.snd.fst.snd.snd.snd.snd.fst) ∧ Wr (x.snd.snd.fst.snd.fst.snd.snd.snd.snd.snd.fst =
  x.snd.snd.fst.snd.fst.snd.snd.snd.snd.snd.fst) ∧ Wr (x.snd.snd.fst.snd.fst.snd.snd.snd.snd.snd.snd.fst = x.snd.snd.fst.snd.fst.snd.snd.snd.snd.snd.snd.fst) ∧ Wr (x.snd.snd.fst.snd.fst.snd.snd.snd.snd.snd.snd.snd.fst =
  x.snd.snd.fst.snd.fst.snd.snd.snd.snd.snd.snd.snd.fst) ∧ Wr (x.snd.snd.fst.snd.snd.fst = x.snd.snd.fst.snd.snd.fst)) (Wr (ansOk x.fst = Bool.true) ∧ Wr (ansOk x.fst = Bool.true) ∧ Wr ((1000 : Int) ≠ (0 : Int)) ∧ Wr
  (ansOk x.fst = Bool.true) ∧ Wr (ansOk x.fst = Bool.true) ∧ Wr (Bool.true = Bool.true) ∧ Wr ((!(!Decidable.decide (ansR x.fst x.snd.fst (Max.max x.snd.snd.snd.fst x_4.snd) = ansR x.fst x.snd.fst x_4.snd) ||
  !Decidable.decide (ansE x.fst x.snd.fst (Max.max x.snd.snd.snd.fst x_4.snd) = ansE x.fst x.snd.fst x_4.snd))) = Bool.true → Bool.true = Bool.true) ∧ Wr ((!(!Decidable.decide (ansR x.fst x.snd.fst (Max.max
  x.snd.snd.snd.fst x_4.snd) = ansR x.fst x.snd.fst x_4.snd) || !Decidable.decide (ansE x.fst x.snd.fst (Max.max x.snd.snd.snd.fst x_4.snd) = ansE x.fst x.snd.fst x_4.snd) || !Decidable.decide (ansR x.fst x.snd.fst
  (IntKind.wrap IntKind.i64 ((-1 : Int) - Int.tmod x.snd.snd.snd.fst (1000 : Int))) = ansR x.fst x.snd.fst (0 : Int)) || !Decidable.decide (ansE x.fst x.snd.fst (IntKind.wrap IntKind.i64 ((-1 : Int) - Int.tmod
  x.snd.snd.snd.fst (1000 : Int))) = ansE x.fst x.snd.fst (0 : Int)))) = Bool.true → Bool.true = Bool.true) ∧ Wr ((!(!Decidable.decide (ansR x.fst x.snd.fst (Max.max x.snd.snd.snd.fst x_4.snd) = ansR x.fst x.snd.fst
  x_4.snd) || !Decidable.decide (ansE x.fst x.snd.fst (Max.max x.snd.snd.snd.fst x_4.snd) = ansE x.fst x.snd.fst x_4.snd) || !Decidable.decide (ansR x.fst x.snd.fst (IntKind.wrap IntKind.i64 ((-1 : Int) - Int.tmod
  x.snd.snd.snd.fst (1000 : Int))) = ansR x.fst x.snd.fst (0 : Int)) || !Decidable.decide (ansE x.fst x.snd.fst (IntKind.wrap IntKind.i64 ((-1 : Int) - Int.tmod x.snd.snd.snd.fst (1000 : Int))) = ansE x.fst x.snd.fst (0 :
  Int)))) = Bool.true → Bool.true = Bool.true) ∧ Wr ((!(!Decidable.decide (ansR x.fst x.snd.fst (Max.max x.snd.snd.snd.fst x_4.snd) = ansR x.fst x.snd.fst x_4.snd) || !Decidable.decide (ansE x.fst x.snd.fst (Max.max
  x.snd.snd.snd.fst x_4.snd) = ansE x.fst x.snd.fst x_4.snd) || !Decidable.decide (ansR x.fst x.snd.fst (IntKind.wrap IntKind.i64 ((-1 : Int) - Int.tmod x.snd.snd.snd.fst (1000 : Int))) = ansR x.fst x.snd.fst (0 : Int))
  || !Decidable.decide (ansE x.fst x.snd.fst (IntKind.wrap IntKind.i64 ((-1 : Int) - Int.tmod x.snd.snd.snd.fst (1000 : Int))) = ansE x.fst x.snd.fst (0 : Int)) || !Decidable.decide
  (Go.Proofs.YtfhlceooobabcaaGreatDoor.Wd.fateF x.fst x.snd.snd.fst (Max.max x.snd.snd.snd.fst x_4.snd) = Go.Proofs.YtfhlceooobabcaaGreatDoor.Wd.fateF x.fst x.snd.snd.fst x_4.snd))) = Bool.true → (1000 : Int) ≠ (0 : Int))
  ∧ Wr ((!(!Decidable.decide (ansR x.fst x.snd.fst (Max.max x.snd.snd.snd.fst x_4.snd) = ansR x.fst x.snd.fst x_4.snd) || !Decidable.decide (ansE x.fst x.snd.fst (Max.max x.snd.snd.snd.fst x_4.snd) = ansE x.fst x.snd.fst
  x_4.snd) || !Decidable.decide (ansR x.fst x.snd.fst (IntKind.wrap IntKind.i64 ((-1 : Int) - Int.tmod x.snd.snd.snd.fst (1000 : Int))) = ansR x.fst x.snd.fst (0 : Int)) || !Decidable.decide (ansE x.fst x.snd.fst
  (IntKind.wrap IntKind.i64 ((-1 : Int) - Int.tmod x.snd.snd.snd.fst (1000 : Int))) = ansE x.fst x.snd.fst (0 : Int)) || !Decidable.decide (Go.Proofs.YtfhlceooobabcaaGreatDoor.Wd.fateF x.fst x.snd.snd.fst (Max.max
  x.snd.snd.snd.fst x_4.snd) = Go.Proofs.YtfhlceooobabcaaGreatDoor.Wd.fateF x.fst x.snd.snd.fst x_4.snd))) = Bool.true → Bool.true = Bool.true) ∧ Wr ((!(!Decidable.decide (ansR x.fst x.snd.fst (Max.max x.snd.snd.snd.fst
  x_4.snd) = ansR x.fst x.snd.fst x_4.snd) || !Decidable.decide (ansE x.fst x.snd.fst (Max.max x.snd.snd.snd.fst x_4.snd) = ansE x.fst x.snd.fst x_4.snd) || !Decidable.decide (ansR x.fst x.snd.fst (IntKind.wrap
  IntKind.i64 ((-1 : Int) - Int.tmod x.snd.snd.snd.fst (1000 : Int))) = ansR x.fst x.snd.fst (0 : Int)) || !Decidable.decide (ansE x.fst x.snd.fst (IntKind.wrap IntKind.i64 ((-1 : Int) - Int.tmod x.snd.snd.snd.fst (1000 :
  Int))) = ansE x.fst x.snd.fst (0 : Int)) || !Decidable.decide (Go.Proofs.YtfhlceooobabcaaGreatDoor.Wd.fateF x.fst x.snd.snd.fst (Max.max x.snd.snd.snd.fst x_4.snd) = Go.Proofs.YtfhlceooobabcaaGreatDoor.Wd.fateF x.fst
  x.snd.snd.fst x_4.snd))) = Bool.true → Bool.true = Bool.true) ∧ bcase (!Decidable.decide (ansR x.fst x.snd.fst (Max.max x.snd.snd.snd.fst x_4.snd) = ansR x.fst x.snd.fst x_4.snd) || !Decidable.decide (ansE x.fst
  x.snd.fst (Max.max x.snd.snd.snd.fst x_4.snd) = ansE x.fst x.snd.fst x_4.snd) || !Decidable.decide (ansR x.fst x.snd.fst (IntKind.wrap IntKind.i64 ((-1 : Int) - Int.tmod x.snd.snd.snd.fst (1000 : Int))) = ansR x.fst
  x.snd.fst (0 : Int)) || !Decidable.decide (ansE x.fst x.snd.fst (IntKind.wrap IntKind.i64 ((-1 : Int) - Int.tmod x.snd.snd.snd.fst (1000 : Int))) = ansE x.fst x.snd.fst (0 : Int)) || !Decidable.decide
  (Go.Proofs.YtfhlceooobabcaaGreatDoor.Wd.fateF x.fst x.snd.snd.fst (Max.max x.snd.snd.snd.fst x_4.snd) = Go.Proofs.YtfhlceooobabcaaGreatDoor.Wd.fateF x.fst x.snd.snd.fst x_4.snd) || !Decidable.decide
  (Go.Proofs.YtfhlceooobabcaaGreatDoor.Wd.fateF x.fst x.snd.snd.fst (IntKind.wrap IntKind.i64 ((-1 : Int) - Int.tmod x.snd.snd.snd.fst (1000 : Int))) = Go.Proofs.YtfhlceooobabcaaGreatDoor.Wd.fateF x.fst x.snd.snd.fst (0 :
  Int))) ((Bool.false, ()) = (Bool.true, ())) (Wr (Bool.true = Bool.true) ∧ Wr ((!!!List.any (x.snd.snd.fst :: nilL (Int × (Int × Int × Int × Int × Int × Int × Int × Int × Unit) × Int × Unit)) (badA x.fst)) = Bool.true →
  Bool.true = Bool.true) ∧ Wr (((!!List.any (x.snd.snd.fst :: nilL (Int × (Int × Int × Int × Int × Int × Int × Int × Int × Unit) × Int × Unit)) (badA x.fst) || Decidable.decide
  (Go.Proofs.YtfhlceooobabcaaGreatDoor.Wd.fateF x.fst x.snd.snd.fst x.snd.snd.snd.fst = (0 : Int))) && Decidable.decide (ansE x.fst x.snd.fst (Max.max x.snd.snd.snd.fst x_4.snd) = (0 : Int)) == Decidable.decide
  ((↑(List.length (ansR x.fst x.snd.fst (Max.max x.snd.snd.snd.fst x_4.snd))) : Int) > (0 : Int))) = Bool.true → True) ∧ ((!!List.any (x.snd.snd.fst :: nilL (Int × (Int × Int × Int × Int × Int × Int × Int × Int × Unit) ×
  Int × Unit)) (badA x.fst) || Decidable.decide (Go.Proofs.YtfhlceooobabcaaGreatDoor.Wd.fateF x.fst x.snd.snd.fst x.snd.snd.snd.fst = (0 : Int))) && Decidable.decide (ansE x.fst x.snd.fst (Max.max x.snd.snd.snd.fst
  x_4.snd) = (0 : Int)) == Decidable.decide ((↑(List.length (ansR x.fst x.snd.fst (Max.max x.snd.snd.snd.fst x_4.snd))) : Int) > (0 : Int)) && Bool.true, ()) = (Bool.true, ())))))))) := by kernel_rfl
end Go.Proofs.YtfhlceooobabcaaGreatDoor.Wn

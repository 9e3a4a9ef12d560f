/-
  A text of mine, of several parts: Wd0V, WdDef1, Wd1Cfg, Wd1Vc, WdP1, WdP2, Wd1V, WdDef2, Wd2Cfg, Wd2Vc, WdP3, WdP4, Wd2V, WdDef3, Wd3Cfg.
-/
import Derived.Test.YtfhlceooobabcaaDoorWfa
import Derived.Test.YtfhlceooobabcaaDoorWfb
import Derived.Test.YtfhlceooobabcaaDoorWfc
set_option linter.all false
namespace Go.Proofs.YtfhlceooobabcaaDoor.Wd
open Go Go.Eng Go.Lb Go.Ad
set_option maxRecDepth 100000
theorem val121 : Valid Tryd.prog GW 121 cLetter := mkValid gws Tb.mix Tb.tab_ok Tb.eqs_ok g121 rfl allV_nil allI_nil Tryd.func121 (by kernel_rfl) v121
theorem val115 : Valid Tryd.prog GW 115 cSign := mkValid gws Tb.mix Tb.tab_ok Tb.eqs_ok g115 rfl (allV_cons val121 allV_nil) allI_nil Tryd.func115 (by kernel_rfl) v115
theorem val108 : Valid Tryd.prog GW 108 cPart := mkValid gws Tb.mix Tb.tab_ok Tb.eqs_ok g108 rfl (allV_cons val115 allV_nil) allI_nil Tryd.func108 (by kernel_rfl) v108
theorem val93 : Valid Tryd.prog GW 93 cValid := mkValid gws Tb.mix Tb.tab_ok Tb.eqs_ok g93 rfl (allV_cons valSplitS (allV_cons val108 allV_nil)) allI_nil Tryd.func93 (by kernel_rfl) v93
theorem val26 : Valid Tryd.prog GW 26 cMay := mkValid gws Tb.mix Tb.tab_ok Tb.eqs_ok g26 rfl allV_nil allI_nil Tryd.func26 (by kernel_rfl) v26
end Go.Proofs.YtfhlceooobabcaaDoor.Wd
set_option maxRecDepth 100000
namespace Go.Proofs.YtfhlceooobabcaaDoor.Wd
open Go Go.Eng Go.Lb Go.Ad
abbrev ZoneT : Ty := .cons .str (.cons (.sl AdL) .unit)
abbrev FatT : Ty := .cons AdT (.cons (.sl I8) .unit)
abbrev PlanT : Ty := .cons (.sl ZoneT) (.cons (.sl FatT) (.cons I64 (.cons (.sl I64) .unit)))
abbrev Zn := ByteArray × List (List Ad) × Unit
abbrev Ft := Ad × List Int × Unit
abbrev Pl := List Zn × List Ft × Int × List Int × Unit
/-! what may be -/
def rowOk (l : List Ad) : Bool := decide (l.length ≤ 16) && (mayA l && decide l.Nodup)
def zoneOk (z : Zn) : Bool := (validB z.1 && decide (fold1 z.1 = z.1)) && (decide (1 ≤ z.2.1.length) && (decide (z.2.1.length ≤ 32) && z.2.1.all rowOk))
def fateIn (x : Int) : Bool := decide (0 ≤ x) && decide (x ≤ 2)
def fateOk (f : Ft) : Bool := may1 f.1 && (decide (1 ≤ f.2.1.length) && (decide (f.2.1.length ≤ 32) && f.2.1.all fateIn))
def dropOk (n : Int) : Bool := decide (0 ≤ n)
def nameOf (z : Zn) : ByteArray := z.1
def adOf (f : Ft) : Ad := f.1
def unlN (l : List Zn) : Bool := decide (l.map nameOf).Nodup
def unlF (l : List Ft) : Bool := decide (l.map adOf).Nodup
def checkB (p : Pl) : Bool := (decide (p.1.length ≤ 8) && p.1.all zoneOk) && (unlN p.1 && ((decide (p.2.1.length ≤ 32) && p.2.1.all fateOk) && (unlF p.2.1 && (decide (0 ≤ p.2.2.1) && (decide (p.2.2.1 ≤ 200) && (decide (p.2.2.2.1.length ≤ 16) && p.2.2.2.1.all dropOk))))))
def check (p : Pl) : Int := bif checkB p then 0 else 90
/-! where the first one stands -/
def idxZ {α : Type} (p : α → Bool) (l : List α) : Int := bif l.any p then (l.findIdx p : Nat) else -1
def adIs (a : Ad) (f : Ft) : Bool := decide (f.1 = a)
def fateRow (p : Pl) (a : Ad) : List Int := match p.2.1.find? (adIs a) with
  | some f => f.2.1
  | none => []
def fateAt (l : List Int) (n : Int) : Int := bif decide (l.length = 0) then 1 else l.getD (min (max n 0) ((l.length : Int) - 1)).toNat 0
def fateF (p : Pl) (a : Ad) (n : Int) : Int := fateAt (fateRow p a) n
/-! contracts -/
def cRowOk : Contract := conD (.cons AdL .unit) (.cons .bool .unit) (fun _ => true) fun x => (rowOk x.1, ())
def cZone : Contract := conD (.cons ZoneT .unit) (.cons .bool .unit) (fun _ => true) fun x => (zoneOk x.1, ())
def cFat : Contract := conD (.cons FatT .unit) (.cons .bool .unit) (fun _ => true) fun x => (fateOk x.1, ())
def cDropOk : Contract := conD (.cons I64 .unit) (.cons .bool .unit) (fun _ => true) fun x => (dropOk x.1, ())
def cCheck : Contract := conD (.cons PlanT .unit) (.cons I64 .unit) (fun _ => true) fun x => (check x.1, ())
def okF (f : Ft) : Bool := decide (f.2.1.length ≤ 1000000)
def okP (p : Pl) : Bool := decide (p.2.1.length ≤ 1000000) && p.2.1.all okF
def cFate : Contract := conD (.cons PlanT (.cons AdT (.cons I64 .unit))) (.cons I8 .unit) (fun x => okP x.1) fun x => (fateF x.1 x.2.1 x.2.2.1, ())
/-! loops -/
structure IdxI {α : Type} (p : α → Bool) (l : List α) (i : Int) : Prop where
  i0 : 0 ≤ i
  i1 : i ≤ l.length
  a : (l.take i.toNat).any p = false
def idxL (nx : Nat) (t : Ty) (p : St → t.El → Bool) : LoopAnn where
  α := Int
  keep := [0, 1, 6, 7]
  okeep := []
  nxt := nx
  env := fun _ x => [(8, .dat I64 x)]
  own := fun _ _ => []
  inv := fun s x => IdxI (p s) (bDat (.sl t) s 0).out x
  mu := fun s x => List.length (α := t.El) (bDat (.sl t) s 0).out - x.toNat
  pick := some fun _ s => (bDat I64 s 8).out
structure UnlI {α κ : Type} [DecidableEq κ] (k : α → κ) (l : List α) (i : Int) (n : Nat) (f : κ → Option Int) : Prop where
  i0 : 0 ≤ i
  i1 : i ≤ l.length
  n : n = i.toNat
  f : ∀ x, f x = bif decide (x ∈ (l.take i.toNat).map k) then some 1 else none
  d : ((l.take i.toNat).map k).Nodup
def unlA (mo nx : Nat) : LoopAnn where
  α := Int × Nat × (Ad → Option Int)
  keep := [0, 1, 10, 11]
  okeep := []
  nxt := nx
  env := fun _ x => [(12, .dat I64 x.1), (5, .own mo)]
  own := fun _ x => [(mo, .map 130 AdT I64 x.2.1 x.2.2)]
  inv := fun s x => UnlI (fun a : Ad => a) (bDat AdL s 0).out x.1 x.2.1 x.2.2
  mu := fun s x => List.length (α := Ad) (bDat AdL s 0).out - x.1.toNat
  pick := some fun _ s => ((bDat I64 s 12).out, (bMap AdT I64 s 5).out)
def unlZ (mo nx : Nat) : LoopAnn where
  α := Int × Nat × (ByteArray → Option Int)
  keep := [0, 1, 10, 11]
  okeep := []
  nxt := nx
  env := fun _ x => [(12, .dat I64 x.1), (5, .own mo)]
  own := fun _ x => [(mo, .map 93 .str I64 x.2.1 x.2.2)]
  inv := fun s x => UnlI nameOf (bDat (.sl ZoneT) s 0).out x.1 x.2.1 x.2.2
  mu := fun s x => List.length (α := Zn) (bDat (.sl ZoneT) s 0).out - x.1.toNat
  pick := some fun _ s => ((bDat I64 s 12).out, (bMap .str I64 s 5).out)
def unlFt (mo nx : Nat) : LoopAnn where
  α := Int × Nat × (Ad → Option Int)
  keep := [0, 1, 10, 11]
  okeep := []
  nxt := nx
  env := fun _ x => [(12, .dat I64 x.1), (5, .own mo)]
  own := fun _ x => [(mo, .map 130 AdT I64 x.2.1 x.2.2)]
  inv := fun s x => UnlI adOf (bDat (.sl FatT) s 0).out x.1 x.2.1 x.2.2
  mu := fun s x => List.length (α := Ft) (bDat (.sl FatT) s 0).out - x.1.toNat
  pick := some fun _ s => ((bDat I64 s 12).out, (bMap AdT I64 s 5).out)
/-- what a function's first captured variable holds -/
def capDat (t : Ty) (s : St) (k : Nat) : Box t.El := match Go.Eng.look s.env k with
  | .fn _ (.pt o off :: _) => match lookO s.own o with
    | .cells _ ds => match gather s.own t (ds.drop off) with
      | some (y, _) => ⟨y⟩
      | none => ⟨t.zero⟩
    | _ => ⟨t.zero⟩
  | _ => ⟨t.zero⟩
def notB {α : Type} (p : α → Bool) (a : α) : Bool := !p a
end Go.Proofs.YtfhlceooobabcaaDoor.Wd
namespace Go.Proofs.YtfhlceooobabcaaDoor.Wd
open Go Go.Eng Go.Lb Go.Ad
set_option maxRecDepth 100000
noncomputable def g67 : Cfg := { tab := Tb.tab, cons := [(26, cMay)], inls := [(68, Tryd.f68), (69, Tryd.f69)], loops := [(690003, unlA 2000 3000)], cuts := [], unroll := false, arrs := [], keys := [31] }
noncomputable def g39 : Cfg := { tab := Tb.tab, cons := [(26, cMay), (65, cFold), (67, cRowOk)], inls := [(40, Tryd.f40), (66, Tryd.f66), (70, Tryd.f70), (71, Tryd.f71), (96, Tryd.f96), (97, Tryd.f97), (98, Tryd.f98), (99, Tryd.f99), (111, Tryd.f111), (112, Tryd.f112)], loops := [(1120002, idxL 3000 AdL fun _ => notB rowOk)], cuts := [], unroll := false, arrs := [], keys := [] }
noncomputable def g41 : Cfg := { tab := Tb.tab, cons := [(26, cMay), (65, cFold)], inls := [(40, Tryd.f40), (66, Tryd.f66), (70, Tryd.f70), (71, Tryd.f71), (96, Tryd.f96), (97, Tryd.f97), (98, Tryd.f98), (99, Tryd.f99), (111, Tryd.f111), (112, Tryd.f112)], loops := [(1130002, idxL 3000 I8 fun _ => notB fateIn)], cuts := [], unroll := false, arrs := [], keys := [] }
noncomputable def g42 : Cfg := { tab := Tb.tab, cons := [(26, cMay), (65, cFold)], inls := [(40, Tryd.f40), (66, Tryd.f66), (70, Tryd.f70), (71, Tryd.f71), (96, Tryd.f96), (97, Tryd.f97), (98, Tryd.f98), (99, Tryd.f99), (111, Tryd.f111), (112, Tryd.f112)], loops := [], cuts := [], unroll := false, arrs := [], keys := [] }
noncomputable def g18 : Cfg := { tab := Tb.tab, cons := [(39, cZone), (41, cFat), (42, cDropOk)], inls := [(43, Tryd.f43), (44, Tryd.f44), (45, Tryd.f45), (46, Tryd.f46), (47, Tryd.f47), (48, Tryd.f48), (49, Tryd.f49), (50, Tryd.f50), (72, Tryd.f72), (73, Tryd.f73), (74, Tryd.f74), (75, Tryd.f75), (76, Tryd.f76), (77, Tryd.f77), (80, Tryd.f80), (100, Tryd.f100)], loops := [(510002, idxL 3000 ZoneT fun _ => notB zoneOk), (450003, unlZ 3900 4000), (810002, idxL 5000 FatT fun _ => notB fateOk), (480003, unlFt 5900 6000), (1010002, idxL 7000 I64 fun _ => notB dropOk)], cuts := [], unroll := false, arrs := [], keys := [31] }
noncomputable def g31 : Cfg := { tab := Tb.tab, cons := [], inls := [(58, Tryd.f58), (59, Tryd.f59), (80, Tryd.f80), (81, Tryd.f81)], loops := [(810002, idxL 3000 FatT fun s => adIs (capDat AdT s 1).out)], cuts := [], unroll := false, arrs := [], keys := [] }
end Go.Proofs.YtfhlceooobabcaaDoor.Wd
namespace Go.Proofs.YtfhlceooobabcaaDoor.Wd
open Go Go.Eng Go.Lb Go.Ad
set_option maxRecDepth 100000
theorem v67_eq : vcFn g67 300 Tryd.f67 cRowOk = ( ∀ (x : List (Int × (Int × Int × Int × Int × Int × Int × Int × Int × Unit) × Int × Unit) × Unit), Wr (Bool.true = Bool.true) → Wr (Decidable.decide ((↑(List.length x.fst) : Int) ≤ (16 : Int)) = Bool.true → lenA x.fst =
  Bool.true) ∧ bcase (Decidable.decide ((↑(List.length x.fst) : Int) ≤ (16 : Int)) && Go.Ad.mayA x.fst) ((Wr (UnlI (fun (a : Int × (Int × Int × Int × Int × Int × Int × Int × Int × Unit) × Int × Unit) => a) x.fst (0 : Int)
  (0 : Nat) fun (x : Int × (Int × Int × Int × Int × Int × Int × Int × Int × Unit) × Int × Unit) => noneO Int) ∧ Wr ((0 : Int) = (0 : Int)) ∧ Wr (x.fst = x.fst) ∧ Wr (x.fst = x.fst) ∧ Wr ((↑(List.length x.fst) : Int) =
  (↑(List.length x.fst) : Int)) ∧ Wr ((0 : Nat) ≤ (0 : Nat)) ∧ Wr ((fun (x : Int × (Int × Int × Int × Int × Int × Int × Int × Int × Unit) × Int × Unit) => noneO Int) = fun (x : Int × (Int × Int × Int × Int × Int × Int ×
  Int × Int × Unit) × Int × Unit) => noneO Int)) ∧ ∀ (x_1 : Int × Nat × (Int × (Int × Int × Int × Int × Int × Int × Int × Int × Unit) × Int × Unit → Option Int)), Wr (UnlI (fun (a : Int × (Int × Int × Int × Int × Int ×
  Int × Int × Int × Unit) × Int × Unit) => a) x.fst x_1.fst x_1.snd.fst x_1.snd.snd) → bcase (Decidable.decide (x_1.fst < (↑(List.length x.fst) : Int))) (Wr ((0 : Int) ≤ x_1.fst) ∧ Wr (x_1.fst < (↑(List.length x.fst) :
  Int)) ∧ Wr (Bool.true = Bool.true) ∧ Wr (x_1.snd.fst < Go.maxLen) ∧ bcase (Decidable.decide (Option.getD (updF AdT I64 x_1.snd.snd (List.getD x.fst (Int.toNat x_1.fst) (Ty.zero AdT)) (IntKind.wrap IntKind.i64
  (Option.getD (x_1.snd.snd (List.getD x.fst (Int.toNat x_1.fst) (Ty.zero AdT))) (0 : Int) + (1 : Int))) (List.getD x.fst (Int.toNat x_1.fst) (Ty.zero AdT))) (0 : Int) > (1 : Int))) ((Bool.true && Bool.false, ()) = (rowOk
  x.fst, ())) (Wr (UnlI (fun (a : Int × (Int × Int × Int × Int × Int × Int × Int × Int × Unit) × Int × Unit) => a) x.fst (IntKind.wrap IntKind.i64 (x_1.fst + (1 : Int))) (x_1.snd.fst + (1 : Nat)) (updF AdT I64 x_1.snd.snd
  (List.getD x.fst (Int.toNat x_1.fst) (Ty.zero AdT)) (IntKind.wrap IntKind.i64 (Option.getD (x_1.snd.snd (List.getD x.fst (Int.toNat x_1.fst) (Ty.zero AdT))) (0 : Int) + (1 : Int))))) ∧ Wr (List.length x.fst - Int.toNat
  (IntKind.wrap IntKind.i64 (x_1.fst + (1 : Int))) < List.length x.fst - Int.toNat x_1.fst) ∧ Wr (IntKind.wrap IntKind.i64 (x_1.fst + (1 : Int)) = IntKind.wrap IntKind.i64 (x_1.fst + (1 : Int))) ∧ Wr (x.fst = x.fst) ∧ Wr
  (x.fst = x.fst) ∧ Wr ((↑(List.length x.fst) : Int) = (↑(List.length x.fst) : Int)) ∧ Wr (x_1.snd.fst + (1 : Nat) ≤ x_1.snd.fst + (1 : Nat)) ∧ Wr (updF AdT I64 x_1.snd.snd (List.getD x.fst (Int.toNat x_1.fst) (Ty.zero
  AdT)) (IntKind.wrap IntKind.i64 (Option.getD (x_1.snd.snd (List.getD x.fst (Int.toNat x_1.fst) (Ty.zero AdT))) (0 : Int) + (1 : Int))) = updF AdT I64 x_1.snd.snd (List.getD x.fst (Int.toNat x_1.fst) (Ty.zero AdT))
  (IntKind.wrap IntKind.i64 (Option.getD (x_1.snd.snd (List.getD x.fst (Int.toNat x_1.fst) (Ty.zero AdT))) (0 : Int) + (1 : Int)))))) ((Bool.true && Bool.true, ()) = (rowOk x.fst, ()))) ((!Bool.true && Bool.false, ()) =
  (rowOk x.fst, ()))) := by kernel_rfl
theorem v39_eq : vcFn g39 300 Tryd.f39 cZone = ( ∀ (x : (ByteArray × List (List (Int × (Int × Int × Int × Int × Int × Int × Int × Int × Unit) × Int × Unit)) × Unit) × Unit), Wr (Bool.true = Bool.true) → Wr (Bool.true = Bool.true) ∧ bcase (Decidable.decide (Go.Lb.fold2
  x.fst.fst = (0 : Int)) && Decidable.decide (Go.Lb.fold1 x.fst.fst = x.fst.fst)) (bcase (Decidable.decide ((↑(List.length x.fst.snd.fst) : Int) ≥ (1 : Int)) && Decidable.decide ((↑(List.length x.fst.snd.fst) : Int) ≤ (32
  : Int))) ((Wr (IdxI (notB rowOk) x.fst.snd.fst (0 : Int)) ∧ Wr ((0 : Int) = (0 : Int)) ∧ Wr (x.fst.snd.fst = x.fst.snd.fst) ∧ Wr (x.fst.snd.fst = x.fst.snd.fst) ∧ Wr ((↑(List.length x.fst.snd.fst) : Int) =
  (↑(List.length x.fst.snd.fst) : Int)) ∧ Wr (x.fst.fst = x.fst.fst) ∧ Wr (x.fst.snd.fst = x.fst.snd.fst) ∧ Wr (x.fst.fst = x.fst.fst) ∧ Wr (x.fst.snd.fst = x.fst.snd.fst) ∧ Wr (x.fst.fst = x.fst.fst) ∧ Wr (x.fst.snd.fst
  = x.fst.snd.fst)) ∧ ∀ (x_1 : Int), Wr (IdxI (notB rowOk) x.fst.snd.fst x_1) → bcase (Decidable.decide (x_1 < (↑(List.length x.fst.snd.fst) : Int))) (Wr ((0 : Int) ≤ x_1) ∧ Wr (x_1 < (↑(List.length x.fst.snd.fst) : Int))
  ∧ Wr (Bool.true = Bool.true) ∧ Wr (Bool.true = Bool.true) ∧ bcase (!rowOk (List.getD x.fst.snd.fst (Int.toNat x_1) (Ty.zero (Ty.sl (Ty.cons (Ty.int IntKind.i8) (Ty.cons (Ty.arr (8 : Nat) (Ty.int IntKind.u16)) (Ty.cons
  (Ty.int IntKind.i64) Ty.unit))))))) ((Bool.true && (Bool.true && !Decidable.decide (x_1 ≥ (0 : Int))), ()) = (zoneOk x.fst, ())) (Wr (IdxI (notB rowOk) x.fst.snd.fst (IntKind.wrap IntKind.i64 (x_1 + (1 : Int)))) ∧ Wr
  (List.length x.fst.snd.fst - Int.toNat (IntKind.wrap IntKind.i64 (x_1 + (1 : Int))) < List.length x.fst.snd.fst - Int.toNat x_1) ∧ Wr (IntKind.wrap IntKind.i64 (x_1 + (1 : Int)) = IntKind.wrap IntKind.i64 (x_1 + (1 :
  Int))) ∧ Wr (x.fst.snd.fst = x.fst.snd.fst) ∧ Wr (x.fst.snd.fst = x.fst.snd.fst) ∧ Wr ((↑(List.length x.fst.snd.fst) : Int) = (↑(List.length x.fst.snd.fst) : Int)) ∧ Wr (x.fst.fst = x.fst.fst) ∧ Wr (x.fst.snd.fst =
  x.fst.snd.fst) ∧ Wr (x.fst.fst = x.fst.fst) ∧ Wr (x.fst.snd.fst = x.fst.snd.fst) ∧ Wr (x.fst.fst = x.fst.fst) ∧ Wr (x.fst.snd.fst = x.fst.snd.fst))) ((Bool.true && (Bool.true && !Decidable.decide ((-1 : Int) ≥ (0 :
  Int))), ()) = (zoneOk x.fst, ()))) ((Bool.true && (!Bool.true && Bool.false), ()) = (zoneOk x.fst, ()))) ((!Bool.true && Bool.false, ()) = (zoneOk x.fst, ()))) := by kernel_rfl
theorem v41_eq : vcFn g41 300 Tryd.f41 cFat = ( ∀ (x : ((Int × (Int × Int × Int × Int × Int × Int × Int × Int × Unit) × Int × Unit) × List Int × Unit) × Unit), Wr (Bool.true = Bool.true) → Wr (lenA (x.fst.fst :: nilL (Int × (Int × Int × Int × Int × Int × Int × Int ×
  Int × Unit) × Int × Unit)) = Bool.true) ∧ bcase (Go.Ad.mayA (x.fst.fst :: nilL (Int × (Int × Int × Int × Int × Int × Int × Int × Int × Unit) × Int × Unit))) (bcase (Decidable.decide ((↑(List.length x.fst.snd.fst) : Int)
  ≥ (1 : Int)) && Decidable.decide ((↑(List.length x.fst.snd.fst) : Int) ≤ (32 : Int))) ((Wr (IdxI (notB fateIn) x.fst.snd.fst (0 : Int)) ∧ Wr ((0 : Int) = (0 : Int)) ∧ Wr (x.fst.snd.fst = x.fst.snd.fst) ∧ Wr
  (x.fst.snd.fst = x.fst.snd.fst) ∧ Wr ((↑(List.length x.fst.snd.fst) : Int) = (↑(List.length x.fst.snd.fst) : Int)) ∧ Wr (x.fst.fst :: nilL (Int × (Int × Int × Int × Int × Int × Int × Int × Int × Unit) × Int × Unit) =
  x.fst.fst :: nilL (Int × (Int × Int × Int × Int × Int × Int × Int × Int × Unit) × Int × Unit)) ∧ Wr (x.fst.fst.fst = x.fst.fst.fst) ∧ Wr (x.fst.fst.snd.fst.fst = x.fst.fst.snd.fst.fst) ∧ Wr (x.fst.fst.snd.fst.snd.fst =
  x.fst.fst.snd.fst.snd.fst) ∧ Wr (x.fst.fst.snd.fst.snd.snd.fst = x.fst.fst.snd.fst.snd.snd.fst) ∧ Wr (x.fst.fst.snd.fst.snd.snd.snd.fst = x.fst.fst.snd.fst.snd.snd.snd.fst) ∧ Wr (x.fst.fst.snd.fst.snd.snd.snd.snd.fst =
  x.fst.fst.snd.fst.snd.snd.snd.snd.fst) ∧ Wr (x.fst.fst.snd.fst.snd.snd.snd.snd.snd.fst = x.fst.fst.snd.fst.snd.snd.snd.snd.snd.fst) ∧ Wr (x.fst.fst.snd.fst.snd.snd.snd.snd.snd.snd.fst =
  x.fst.fst.snd.fst.snd.snd.snd.snd.snd.snd.fst) ∧ Wr (x.fst.fst.snd.fst.snd.snd.snd.snd.snd.snd.snd.fst = x.fst.fst.snd.fst.snd.snd.snd.snd.snd.snd.snd.fst) ∧ Wr (x.fst.fst.snd.snd.fst = x.fst.fst.snd.snd.fst) ∧ Wr
  (x.fst.snd.fst = x.fst.snd.fst) ∧ Wr (x.fst.fst.fst = x.fst.fst.fst) ∧ Wr (x.fst.fst.snd.fst.fst = x.fst.fst.snd.fst.fst) ∧ Wr (x.fst.fst.snd.fst.snd.fst = x.fst.fst.snd.fst.snd.fst) ∧ Wr (x.fst.fst.snd.fst.snd.snd.fst
  = x.fst.fst.snd.fst.snd.snd.fst) ∧ Wr (x.fst.fst.snd.fst.snd.snd.snd.fst = x.fst.fst.snd.fst.snd.snd.snd.fst) ∧ Wr (x.fst.fst.snd.fst.snd.snd.snd.snd.fst = x.fst.fst.snd.fst.snd.snd.snd.snd.fst) ∧ Wr
  (x.fst.fst.snd.fst.snd.snd.snd.snd.snd.fst = x.fst.fst.snd.fst.snd.snd.snd.snd.snd.fst) ∧ Wr (x.fst.fst.snd.fst.snd.snd.snd.snd.snd.snd.fst = x.fst.fst.snd.fst.snd.snd.snd.snd.snd.snd.fst) ∧ Wr
  (x.fst.fst.snd.fst.snd.snd.snd.snd.snd.snd.snd.fst = x.fst.fst.snd.fst.snd.snd.snd.snd.snd.snd.snd.fst) ∧ Wr (x.fst.fst.snd.snd.fst = x.fst.fst.snd.snd.fst) ∧ Wr (x.fst.snd.fst = x.fst.snd.fst) ∧ Wr (x.fst.fst.fst =
  x.fst.fst.fst) ∧ Wr (x.fst.fst.snd.fst.fst = x.fst.fst.snd.fst.fst) ∧ Wr (x.fst.fst.snd.fst.snd.fst = x.fst.fst.snd.fst.snd.fst) ∧ Wr (x.fst.fst.snd.fst.snd.snd.fst = x.fst.fst.snd.fst.snd.snd.fst) ∧ Wr
  (x.fst.fst.snd.fst.snd.snd.snd.fst = x.fst.fst.snd.fst.snd.snd.snd.fst) ∧ Wr (x.fst.fst.snd.fst.snd.snd.snd.snd.fst = x.fst.fst.snd.fst.snd.snd.snd.snd.fst) ∧ Wr (x.fst.fst.snd.fst.snd.snd.snd.snd.snd.fst =
  x.fst.fst.snd.fst.snd.snd.snd.snd.snd.fst) ∧ Wr (x.fst.fst.snd.fst.snd.snd.snd.snd.snd.snd.fst = x.fst.fst.snd.fst.snd.snd.snd.snd.snd.snd.fst) ∧ Wr (x.fst.fst.snd.fst.snd.snd.snd.snd.snd.snd.snd.fst =
  x.fst.fst.snd.fst.snd.snd.snd.snd.snd.snd.snd.fst) ∧ Wr (x.fst.fst.snd.snd.fst = x.fst.fst.snd.snd.fst) ∧ Wr (x.fst.snd.fst = x.fst.snd.fst)) ∧ ∀ (x_1 : Int), Wr (IdxI (notB fateIn) x.fst.snd.fst x_1) → bcase
  (Decidable.decide (x_1 < (↑(List.length x.fst.snd.fst) : Int))) (Wr ((0 : Int) ≤ x_1) ∧ Wr (x_1 < (↑(List.length x.fst.snd.fst) : Int)) ∧ Wr (Bool.true = Bool.true) ∧ bcase (!(Decidable.decide (List.getD x.fst.snd.fst
  (Int.toNat x_1) (0 : Int) ≥ (0 : Int)) && Decidable.decide (List.getD x.fst.snd.fst (Int.toNat x_1) (0 : Int) ≤ (2 : Int)))) ((Bool.true && (Bool.true && !Decidable.decide (x_1 ≥ (0 : Int))), ()) = (fateOk x.fst, ()))
  (Wr (IdxI (notB fateIn) x.fst.snd.fst (IntKind.wrap IntKind.i64 (x_1 + (1 : Int)))) ∧ Wr (List.length x.fst.snd.fst - Int.toNat (IntKind.wrap IntKind.i64 (x_1 + (1 : Int))) < List.length x.fst.snd.fst - Int.toNat x_1) ∧
  Wr (IntKind.wrap IntKind.i64 (x_1 + (1 : Int)) = IntKind.wrap IntKind.i64 (x_1 + (1 : Int))) ∧ Wr (x.fst.snd.fst = x.fst.snd.fst) ∧ Wr (x.fst.snd.fst = x.fst.snd.fst) ∧ Wr ((↑(List.length x.fst.snd.fst) : Int) =
  (↑(List.length x.fst.snd.fst) : Int)) ∧ Wr (x.fst.fst :: nilL (Int × (Int × Int × Int × Int × Int × Int × Int × Int × Unit) × Int × Unit) = x.fst.fst :: nilL (Int × (Int × Int × Int × Int × Int × Int × Int × Int × Unit)
  × Int × Unit)) ∧ Wr (x.fst.fst.fst = x.fst.fst.fst) ∧ Wr (x.fst.fst.snd.fst.fst = x.fst.fst.snd.fst.fst) ∧ Wr (x.fst.fst.snd.fst.snd.fst = x.fst.fst.snd.fst.snd.fst) ∧ Wr (x.fst.fst.snd.fst.snd.snd.fst =
  x.fst.fst.snd.fst.snd.snd.fst) ∧ Wr (x.fst.fst.snd.fst.snd.snd.snd.fst = x.fst.fst.snd.fst.snd.snd.snd.fst) ∧ Wr (x.fst.fst.snd.fst.snd.snd.snd.snd.fst = x.fst.fst.snd.fst.snd.snd.snd.snd.fst) ∧ Wr
  (x.fst.fst.snd.fst.snd.snd.snd.snd.snd.fst = x.fst.fst.snd.fst.snd.snd.snd.snd.snd.fst) ∧ Wr (x.fst.fst.snd.fst.snd.snd.snd.snd.snd.snd.fst = x.fst.fst.snd.fst.snd.snd.snd.snd.snd.snd.fst) ∧ Wr
  (x.fst.fst.snd.fst.snd.snd.snd.snd.snd.snd.snd.fst = x.fst.fst.snd.fst.snd.snd.snd.snd.snd.snd.snd.fst) ∧ Wr (x.fst.fst.snd.snd.fst = x.fst.fst.snd.snd.fst) ∧ Wr (x.fst.snd.fst = x.fst.snd.fst) ∧ Wr (x.fst.fst.fst =
  x.fst.fst.fst) ∧ Wr (x.fst.fst.snd.fst.fst = x.fst.fst.snd.fst.fst) ∧ Wr (x.fst.fst.snd.fst.snd.fst = x.fst.fst.snd.fst.snd.fst) ∧ Wr (x.fst.fst.snd.fst.snd.snd.fst = x.fst.fst.snd.fst.snd.snd.fst) ∧ Wr
  (x.fst.fst.snd.fst.snd.snd.snd.fst = x.fst.fst.snd.fst.snd.snd.snd.fst) ∧ Wr (x.fst.fst.snd.fst.snd.snd.snd.snd.fst = x.fst.fst.snd.fst.snd.snd.snd.snd.fst) ∧ Wr (x.fst.fst.snd.fst.snd.snd.snd.snd.snd.fst =
  x.fst.fst.snd.fst.snd.snd.snd.snd.snd.fst) ∧ Wr (x.fst.fst.snd.fst.snd.snd.snd.snd.snd.snd.fst = x.fst.fst.snd.fst.snd.snd.snd.snd.snd.snd.fst) ∧ Wr (x.fst.fst.snd.fst.snd.snd.snd.snd.snd.snd.snd.fst =
  x.fst.fst.snd.fst.snd.snd.snd.snd.snd.snd.snd.fst) ∧ Wr (x.fst.fst.snd.snd.fst = x.fst.fst.snd.snd.fst) ∧ Wr (x.fst.snd.fst = x.fst.snd.fst) ∧ Wr (x.fst.fst.fst = x.fst.fst.fst) ∧ Wr (x.fst.fst.snd.fst.fst =
  x.fst.fst.snd.fst.fst) ∧ Wr (x.fst.fst.snd.fst.snd.fst = x.fst.fst.snd.fst.snd.fst) ∧ Wr (x.fst.fst.snd.fst.snd.snd.fst = x.fst.fst.snd.fst.snd.snd.fst) ∧ Wr (x.fst.fst.snd.fst.snd.snd.snd.fst =
  x.fst.fst.snd.fst.snd.snd.snd.fst) ∧ Wr (x.fst.fst.snd.fst.snd.snd.snd.snd.fst = x.fst.fst.snd.fst.snd.snd.snd.snd.fst) ∧ Wr (x.fst.fst.snd.fst.snd.snd.snd.snd.snd.fst = x.fst.fst.snd.fst.snd.snd.snd.snd.snd.fst) ∧ Wr
  (x.fst.fst.snd.fst.snd.snd.snd.snd.snd.snd.fst = x.fst.fst.snd.fst.snd.snd.snd.snd.snd.snd.fst) ∧ Wr (x.fst.fst.snd.fst.snd.snd.snd.snd.snd.snd.snd.fst = x.fst.fst.snd.fst.snd.snd.snd.snd.snd.snd.snd.fst) ∧ Wr
  (x.fst.fst.snd.snd.fst = x.fst.fst.snd.snd.fst) ∧ Wr (x.fst.snd.fst = x.fst.snd.fst))) ((Bool.true && (Bool.true && !Decidable.decide ((-1 : Int) ≥ (0 : Int))), ()) = (fateOk x.fst, ()))) ((Bool.true && (!Bool.true &&
  Bool.false), ()) = (fateOk x.fst, ()))) ((!Bool.true && Bool.false, ()) = (fateOk x.fst, ()))) := by kernel_rfl
theorem v42_eq : vcFn g42 300 Tryd.f42 cDropOk = ( ∀ (x : Int × Unit), Wr (Bool.true = Bool.true) → (Decidable.decide (x.fst ≥ (0 : Int)), ()) = (dropOk x.fst, ())) := by kernel_rfl
theorem v18_eq : vcFn g18 300 Tryd.f18 cCheck = ( ∀ (x : (List (ByteArray × List (List (Int × (Int × Int × Int × Int × Int × Int × Int × Int × Unit) × Int × Unit)) × Unit) × List ((Int × (Int × Int × Int × Int × Int × Int × Int × Int × Unit) × Int × Unit) × List Int ×
  Unit) × Int × List Int × Unit) × Unit), Wr (Bool.true = Bool.true) → bcase (Decidable.decide ((↑(List.length x.fst.fst) : Int) ≥ (0 : Int)) && Decidable.decide ((↑(List.length x.fst.fst) : Int) ≤ (8 : Int))) ((Wr (IdxI
  (notB zoneOk) x.fst.fst (0 : Int)) ∧ Wr ((0 : Int) = (0 : Int)) ∧ Wr (x.fst.fst = x.fst.fst) ∧ Wr (x.fst.fst = x.fst.fst) ∧ Wr ((↑(List.length x.fst.fst) : Int) = (↑(List.length x.fst.fst) : Int)) ∧ Wr (x.fst.fst =
  x.fst.fst) ∧ Wr (x.fst.snd.fst = x.fst.snd.fst) ∧ Wr (x.fst.snd.snd.fst = x.fst.snd.snd.fst) ∧ Wr (x.fst.snd.snd.snd.fst = x.fst.snd.snd.snd.fst)) ∧ ∀ (x_1 : Int), Wr (IdxI (notB zoneOk) x.fst.fst x_1) → bcase
  (Decidable.decide (x_1 < (↑(List.length x.fst.fst) : Int))) (Wr ((0 : Int) ≤ x_1) ∧ Wr (x_1 < (↑(List.length x.fst.fst) : Int)) ∧ Wr (Bool.true = Bool.true) ∧ Wr (Bool.true = Bool.true) ∧ bcase (!zoneOk (List.getD
  x.fst.fst (Int.toNat x_1) (Ty.zero ZoneT))) (bcase (Bool.true && !Decidable.decide (x_1 ≥ (0 : Int))) ((Wr (UnlI nameOf x.fst.fst (0 : Int) (0 : Nat) fun (x : ByteArray) => noneO Int) ∧ Wr ((0 : Int) = (0 : Int)) ∧ Wr
  (x.fst.fst = x.fst.fst) ∧ Wr (x.fst.fst = x.fst.fst) ∧ Wr ((↑(List.length x.fst.fst) : Int) = (↑(List.length x.fst.fst) : Int)) ∧ Wr ((0 : Nat) ≤ (0 : Nat)) ∧ Wr ((fun (x : ByteArray) => noneO Int) = fun (x : ByteArray)
  => noneO Int) ∧ Wr ((List.getD x.fst.fst (Int.toNat x_1) (Ty.zero ZoneT)).fst = (List.getD x.fst.fst (Int.toNat x_1) (Ty.zero ZoneT)).fst) ∧ Wr ((List.getD x.fst.fst (Int.toNat x_1) (Ty.zero ZoneT)).snd.fst = (List.getD
  x.fst.fst (Int.toNat x_1) (Ty.zero ZoneT)).snd.fst) ∧ Wr (x.fst.fst = x.fst.fst) ∧ Wr (x.fst.snd.fst = x.fst.snd.fst) ∧ Wr (x.fst.snd.snd.fst = x.fst.snd.snd.fst) ∧ Wr (x.fst.snd.snd.snd.fst = x.fst.snd.snd.snd.fst)) ∧
  ∀ (x_2 : Int × Nat × (ByteArray → Option Int)), Wr (UnlI nameOf x.fst.fst x_2.fst x_2.snd.fst x_2.snd.snd) → bcase (Decidable.decide (x_2.fst < (↑(List.length x.fst.fst) : Int))) (Wr ((0 : Int) ≤ x_2.fst) ∧ Wr (x_2.fst
  < (↑(List.length x.fst.fst) : Int)) ∧ Wr (Bool.true = Bool.true) ∧ Wr (x_2.snd.fst < Go.maxLen) ∧ bcase (Decidable.decide (Option.getD (updF Ty.str I64 x_2.snd.snd (List.getD x.fst.fst (Int.toNat x_2.fst) (Ty.zero
  ZoneT)).fst (IntKind.wrap IntKind.i64 (Option.getD (x_2.snd.snd (List.getD x.fst.fst (Int.toNat x_2.fst) (Ty.zero ZoneT)).fst) (0 : Int) + (1 : Int))) (List.getD x.fst.fst (Int.toNat x_2.fst) (Ty.zero ZoneT)).fst) (0 :
  Int) > (1 : Int))) (((90 : Int), ()) = (check x.fst, ())) (Wr (UnlI nameOf x.fst.fst (IntKind.wrap IntKind.i64 (x_2.fst + (1 : Int))) (x_2.snd.fst + (1 : Nat)) (updF Ty.str I64 x_2.snd.snd (List.getD x.fst.fst
  (Int.toNat x_2.fst) (Ty.zero ZoneT)).fst (IntKind.wrap IntKind.i64 (Option.getD (x_2.snd.snd (List.getD x.fst.fst (Int.toNat x_2.fst) (Ty.zero ZoneT)).fst) (0 : Int) + (1 : Int))))) ∧ Wr (List.length x.fst.fst -
  Int.toNat (IntKind.wrap IntKind.i64 (x_2.fst + (1 : Int))) < List.length x.fst.fst - Int.toNat x_2.fst) ∧ Wr (IntKind.wrap IntKind.i64 (x_2.fst + (1 : Int)) = IntKind.wrap IntKind.i64 (x_2.fst + (1 : Int))) ∧ Wr
  (x.fst.fst = x.fst.fst) ∧ Wr (x.fst.fst = x.fst.fst) ∧ Wr ((↑(List.length x.fst.fst) : Int) = (↑(List.length x.fst.fst) : Int)) ∧ Wr (x_2.snd.fst + (1 : Nat) ≤ x_2.snd.fst + (1 : Nat)) ∧ Wr (updF Ty.str I64 x_2.snd.snd
  (List.getD x.fst.fst (Int.toNat x_2.fst) (Ty.zero ZoneT)).fst (IntKind.wrap IntKind.i64 (Option.getD (x_2.snd.snd (List.getD x.fst.fst (Int.toNat x_2.fst) (Ty.zero ZoneT)).fst) (0 : Int) + (1 : Int))) = updF Ty.str I64
  x_2.snd.snd (List.getD x.fst.fst (Int.toNat x_2.fst) (Ty.zero ZoneT)).fst (IntKind.wrap IntKind.i64 (Option.getD (x_2.snd.snd (List.getD x.fst.fst (Int.toNat x_2.fst) (Ty.zero ZoneT)).fst) (0 : Int) + (1 : Int)))) ∧ Wr
  ((List.getD x.fst.fst (Int.toNat x_1) (Ty.zero ZoneT)).fst = (List.getD x.fst.fst (Int.toNat x_1) (Ty.zero ZoneT)).fst) ∧ Wr ((List.getD x.fst.fst (Int.toNat x_1) (Ty.zero ZoneT)).snd.fst = (List.getD x.fst.fst
  (Int.toNat x_1) (Ty.zero ZoneT)).snd.fst) ∧ Wr (x.fst.fst = x.fst.fst) ∧ Wr (x.fst.snd.fst = x.fst.snd.fst) ∧ Wr (x.fst.snd.snd.fst = x.fst.snd.snd.fst) ∧ Wr (x.fst.snd.snd.snd.fst = x.fst.snd.snd.snd.fst))) (bcase
  (Decidable.decide ((↑(List.length x.fst.snd.fst) : Int) ≥ (0 : Int)) && Decidable.decide ((↑(List.length x.fst.snd.fst) : Int) ≤ (32 : Int))) ((Wr (IdxI (notB fateOk) x.fst.snd.fst (0 : Int)) ∧ Wr ((0 : Int) = (0 :
  Int)) ∧ Wr (x.fst.snd.fst = x.fst.snd.fst) ∧ Wr (x.fst.snd.fst = x.fst.snd.fst) ∧ Wr ((↑(List.length x.fst.snd.fst) : Int) = (↑(List.length x.fst.snd.fst) : Int)) ∧ Wr (x_2.snd.fst ≤ x_2.snd.fst) ∧ Wr (x_2.snd.snd =
  x_2.snd.snd) ∧ Wr ((List.getD x.fst.fst (Int.toNat x_1) (Ty.zero ZoneT)).fst = (List.getD x.fst.fst (Int.toNat x_1) (Ty.zero ZoneT)).fst) ∧ Wr ((List.getD x.fst.fst (Int.toNat x_1) (Ty.zero ZoneT)).snd.fst = (List.getD
  x.fst.fst (Int.toNat x_1) (Ty.zero ZoneT)).snd.fst) ∧ Wr (x.fst.fst = x.fst.fst) ∧ Wr (x.fst.snd.fst = x.fst.snd.fst) ∧ Wr (x.fst.snd.snd.fst = x.fst.snd.snd.fst) ∧ Wr (x.fst.snd.snd.snd.fst = x.fst.snd.snd.snd.fst)) ∧
  ∀ (x_3 : Int), Wr (IdxI (notB fateOk) x.fst.snd.fst x_3) → bcase (Decidable.decide (x_3 < (↑(List.length x.fst.snd.fst) : Int))) (Wr ((0 : Int) ≤ x_3) ∧ Wr (x_3 < (↑(List.length x.fst.snd.fst) : Int)) ∧ Wr (Bool.true =
  Bool.true) ∧ Wr (Bool.true = Bool.true) ∧ bcase (!fateOk (List.getD x.fst.snd.fst (Int.toNat x_3) (Ty.zero FatT))) (bcase (Bool.true && (Bool.true && !Decidable.decide (x_3 ≥ (0 : Int)))) ((Wr (UnlI adOf x.fst.snd.fst
  (0 : Int) (0 : Nat) fun (x : Int × (Int × Int × Int × Int × Int × Int × Int × Int × Unit) × Int × Unit) => noneO Int) ∧ Wr ((0 : Int) = (0 : Int)) ∧ Wr (x.fst.snd.fst = x.fst.snd.fst) ∧ Wr (x.fst.snd.fst =
  x.fst.snd.fst) ∧ Wr ((↑(List.length x.fst.snd.fst) : Int) = (↑(List.length x.fst.snd.fst) : Int)) ∧ Wr ((0 : Nat) ≤ (0 : Nat)) ∧ Wr ((fun (x : Int × (Int × Int × Int × Int × Int × Int × Int × Int × Unit) × Int × Unit)
  => noneO Int) = fun (x : Int × (Int × Int × Int × Int × Int × Int × Int × Int × Unit) × Int × Unit) => noneO Int) ∧ Wr ((List.getD x.fst.snd.fst (Int.toNat x_3) (Ty.zero FatT)).fst.fst = (List.getD x.fst.snd.fst
  (Int.toNat x_3) (Ty.zero FatT)).fst.fst) ∧ Wr ((List.getD x.fst.snd.fst (Int.toNat x_3) (Ty.zero FatT)).fst.snd.fst.fst = (List.getD x.fst.snd.fst (Int.toNat x_3) (Ty.zero FatT)).fst.snd.fst.fst) ∧ Wr ((List.getD
  x.fst.snd.fst (Int.toNat x_3) (Ty.zero FatT)).fst.snd.fst.snd.fst = (List.getD x.fst.snd.fst (Int.toNat x_3) (Ty.zero FatT)).fst.snd.fst.snd.fst) ∧ Wr ((List.getD x.fst.snd.fst (Int.toNat x_3) (Ty.zero
  FatT)).fst.snd.fst.snd.snd.fst = (List.getD x.fst.snd.fst (Int.toNat x_3) (Ty.zero FatT)).fst.snd.fst.snd.snd.fst) ∧ Wr ((List.getD x.fst.snd.fst (Int.toNat x_3) (Ty.zero FatT)).fst.snd.fst.snd.snd.snd.fst = (List.getD
  x.fst.snd.fst (Int.toNat x_3) (Ty.zero FatT)).fst.snd.fst.snd.snd.snd.fst) ∧ Wr ((List.getD x.fst.snd.fst (Int.toNat x_3) (Ty.zero FatT)).fst.snd.fst.snd.snd.snd.snd.fst = (List.getD x.fst.snd.fst (Int.toNat x_3)
  (Ty.zero FatT)).fst.snd.fst.snd.snd.snd.snd.fst) ∧ Wr ((List.getD x.fst.snd.fst (Int.toNat x_3) (Ty.zero FatT)).fst.snd.fst.snd.snd.snd.snd.snd.fst = (List.getD x.fst.snd.fst (Int.toNat x_3) (Ty.zero
  FatT)).fst.snd.fst.snd.snd.snd.snd.snd.fst) ∧ Wr ((List.getD x.fst.snd.fst (Int.toNat x_3) (Ty.zero FatT)).fst.snd.fst.snd.snd.snd.snd.snd.snd.fst = (List.getD x.fst.snd.fst (Int.toNat x_3) (Ty.zero
  FatT)).fst.snd.fst.snd.snd.snd.snd.snd.snd.fst) ∧ Wr ((List.getD x.fst.snd.fst (Int.toNat x_3) (Ty.zero FatT)).fst.snd.fst.snd.snd.snd.snd.snd.snd.snd.fst = (List.getD x.fst.snd.fst (Int.toNat x_3) (Ty.zero
  FatT)).fst.snd.fst.snd.snd.snd.snd.snd.snd.snd.fst) ∧ Wr ((List.getD x.fst.snd.fst (Int.toNat x_3) (Ty.zero FatT)).fst.snd.snd.fst = (List.getD x.fst.snd.fst (Int.toNat x_3) (Ty.zero FatT)).fst.snd.snd.fst) ∧ Wr
  ((List.getD x.fst.snd.fst (Int.toNat x_3) (Ty.zero FatT)).snd.fst = (List.getD x.fst.snd.fst (Int.toNat x_3) (Ty.zero FatT)).snd.fst) ∧ Wr (x_2.snd.fst ≤ x_2.snd.fst) ∧ Wr (x_2.snd.snd = x_2.snd.snd) ∧ Wr ((List.getD
  x.fst.fst (Int.toNat x_1) (Ty.zero ZoneT)).fst = (List.getD x.fst.fst (Int.toNat x_1) (Ty.zero ZoneT)).fst) ∧ Wr ((List.getD x.fst.fst (Int.toNat x_1) (Ty.zero ZoneT)).snd.fst = (List.getD x.fst.fst (Int.toNat x_1)
  (Ty.zero ZoneT)).snd.fst) ∧ Wr (x.fst.fst = x.fst.fst) ∧ Wr (x.fst.snd.fst = x.fst.snd.fst) ∧ Wr (x.fst.snd.snd.fst = x.fst.snd.snd.fst) ∧ Wr (x.fst.snd.snd.snd.fst = x.fst.snd.snd.snd.fst)) ∧ ∀ (x_4 : Int × Nat × (Int
  × (Int × Int × Int × Int × Int × Int × Int × Int × Unit) × Int × Unit → Option Int)), Wr (UnlI adOf x.fst.snd.fst x_4.fst x_4.snd.fst x_4.snd.snd) → bcase (Decidable.decide (x_4.fst < (↑(List.length x.fst.snd.fst) :
  Int))) (Wr ((0 : Int) ≤ x_4.fst) ∧ Wr (x_4.fst < (↑(List.length x.fst.snd.fst) : Int)) ∧ Wr (Bool.true = Bool.true) ∧ Wr (x_4.snd.fst < Go.maxLen) ∧ bcase (Decidable.decide (Option.getD (updF AdT I64 x_4.snd.snd
  (List.getD x.fst.snd.fst (Int.toNat x_4.fst) (Ty.zero FatT)).fst (IntKind.wrap IntKind.i64 (Option.getD (x_4.snd.snd (List.getD x.fst.snd.fst (Int.toNat x_4.fst) (Ty.zero FatT)).fst) (0 : Int) + (1 : Int))) (List.getD
  x.fst.snd.fst (Int.toNat x_4.fst) (Ty.zero FatT)).fst) (0 : Int) > (1 : Int))) (((90 : Int), ()) = (check x.fst, ())) (Wr (UnlI adOf x.fst.snd.fst (IntKind.wrap IntKind.i64 (x_4.fst + (1 : Int))) (x_4.snd.fst + (1 :
  Nat)) (updF AdT I64 x_4.snd.snd (List.getD x.fst.snd.fst (Int.toNat x_4.fst) (Ty.zero FatT)).fst (IntKind.wrap IntKind.i64 (Option.getD (x_4.snd.snd (List.getD x.fst.snd.fst (Int.toNat x_4.fst) (Ty.zero FatT)).fst) (0 :
  Int) + (1 : Int))))) ∧ Wr (List.length x.fst.snd.fst - Int.toNat (IntKind.wrap IntKind.i64 (x_4.fst + (1 : Int))) < List.length x.fst.snd.fst - Int.toNat x_4.fst) ∧ Wr (IntKind.wrap IntKind.i64 (x_4.fst + (1 : Int)) =
  IntKind.wrap IntKind.i64 (x_4.fst + (1 : Int))) ∧ Wr (x.fst.snd.fst = x.fst.snd.fst) ∧ Wr (x.fst.snd.fst = x.fst.snd.fst) ∧ Wr ((↑(List.length x.fst.snd.fst) : Int) = (↑(List.length x.fst.snd.fst) : Int)) ∧ Wr
  (x_4.snd.fst + (1 : Nat) ≤ x_4.snd.fst + (1 : Nat)) ∧ Wr (updF AdT I64 x_4.snd.snd (List.getD x.fst.snd.fst (Int.toNat x_4.fst) (Ty.zero FatT)).fst (IntKind.wrap IntKind.i64 (Option.getD (x_4.snd.snd (List.getD
  x.fst.snd.fst (Int.toNat x_4.fst) (Ty.zero FatT)).fst) (0 : Int) + (1 : Int))) = updF AdT I64 x_4.snd.snd (List.getD x.fst.snd.fst (Int.toNat x_4.fst) (Ty.zero FatT)).fst (IntKind.wrap IntKind.i64 (Option.getD
  (x_4.snd.snd (List.getD x.fst.snd.fst (Int.toNat x_4.fst) (Ty.zero FatT)).fst) (0 : Int) + (1 : Int)))) ∧ Wr ((List.getD x.fst.snd.fst (Int.toNat x_3) (Ty.zero FatT)).fst.fst = (List.getD x.fst.snd.fst (Int.toNat x_3)
  (Ty.zero FatT)).fst.fst) ∧ Wr ((List.getD x.fst.snd.fst (Int.toNat x_3) (Ty.zero FatT)).fst.snd.fst.fst = (List.getD x.fst.snd.fst (Int.toNat x_3) (Ty.zero FatT)).fst.snd.fst.fst) ∧ Wr ((List.getD x.fst.snd.fst
  (Int.toNat x_3) (Ty.zero FatT)).fst.snd.fst.snd.fst = (List.getD x.fst.snd.fst (Int.toNat x_3) (Ty.zero FatT)).fst.snd.fst.snd.fst) ∧ Wr ((List.getD x.fst.snd.fst (Int.toNat x_3) (Ty.zero FatT)).fst.snd.fst.snd.snd.fst
  = (List.getD x.fst.snd.fst (Int.toNat x_3) (Ty.zero FatT)).fst.snd.fst.snd.snd.fst) ∧ Wr ((List.getD x.fst.snd.fst (Int.toNat x_3) (Ty.zero FatT)).fst.snd.fst.snd.snd.snd.fst = (List.getD x.fst.snd.fst (Int.toNat x_3)
  (Ty.zero FatT)).fst.snd.fst.snd.snd.snd.fst) ∧ Wr ((List.getD x.fst.snd.fst (Int.toNat x_3) (Ty.zero FatT)).fst.snd.fst.snd.snd.snd.snd.fst = (List.getD x.fst.snd.fst (Int.toNat x_3) (Ty.zero
  FatT)).fst.snd.fst.snd.snd.snd.snd.fst) ∧ Wr ((List.getD x.fst.snd.fst (Int.toNat x_3) (Ty.zero FatT)).fst.snd.fst.snd.snd.snd.snd.snd.fst = (List.getD x.fst.snd.fst (Int.toNat x_3) (Ty.zero
  FatT)).fst.snd.fst.snd.snd.snd.snd.snd.fst) ∧ Wr ((List.getD x.fst.snd.fst (Int.toNat x_3) (Ty.zero FatT)).fst.snd.fst.snd.snd.snd.snd.snd.snd.fst = (List.getD x.fst.snd.fst (Int.toNat x_3) (Ty.zero
  FatT)).fst.snd.fst.snd.snd.snd.snd.snd.snd.fst) ∧ Wr ((List.getD x.fst.snd.fst (Int.toNat x_3) (Ty.zero FatT)).fst.snd.fst.snd.snd.snd.snd.snd.snd.snd.fst = (List.getD x.fst.snd.fst (Int.toNat x_3) (Ty.zero
  FatT)).fst.snd.fst.snd.snd.snd.snd.snd.snd.snd.fst) ∧ Wr ((List.getD x.fst.snd.fst (Int.toNat x_3) (Ty.zero FatT)).fst.snd.snd.fst = (List.getD x.fst.snd.fst (Int.toNat x_3) (Ty.zero FatT)).fst.snd.snd.fst) ∧ Wr
  ((List.getD x.fst.snd.fst (Int.toNat x_3) (Ty.zero FatT)).snd.fst = (List.getD x.fst.snd.fst (Int.toNat x_3) (Ty.zero FatT)).snd.fst) ∧ Wr (x_2.snd.fst ≤ x_2.snd.fst) ∧ Wr (x_2.snd.snd = x_2.snd.snd) ∧ Wr ((List.getD
  x.fst.fst (Int.toNat x_1) (Ty.zero ZoneT)).fst = (List.getD x.fst.fst (Int.toNat x_1) (Ty.zero ZoneT)).fst) ∧ Wr ((List.getD x.fst.fst (Int.toNat x_1) (Ty.zero ZoneT)).snd.fst = (List.getD x.fst.fst (Int.toNat x_1)
  (Ty.zero ZoneT)).snd.fst) ∧ Wr (x.fst.fst = x.fst.fst) ∧ Wr (x.fst.snd.fst = x.fst.snd.fst) ∧ Wr (x.fst.snd.snd.fst = x.fst.snd.snd.fst) ∧ Wr (x.fst.snd.snd.snd.fst = x.fst.snd.snd.snd.fst))) (bcase (Bool.true &&
  Bool.true && Decidable.decide (x.fst.snd.snd.fst ≥ (0 : Int)) && Decidable.decide (x.fst.snd.snd.fst ≤ (200 : Int))) (bcase (Decidable.decide ((↑(List.length x.fst.snd.snd.snd.fst) : Int) ≥ (0 : Int)) &&
  Decidable.decide ((↑(List.length x.fst.snd.snd.snd.fst) : Int) ≤ (16 : Int))) ((Wr (IdxI (notB dropOk) x.fst.snd.snd.snd.fst (0 : Int)) ∧ Wr ((0 : Int) = (0 : Int)) ∧ Wr (x.fst.snd.snd.snd.fst = x.fst.snd.snd.snd.fst) ∧
  Wr (x.fst.snd.snd.snd.fst = x.fst.snd.snd.snd.fst) ∧ Wr ((↑(List.length x.fst.snd.snd.snd.fst) : Int) = (↑(List.length x.fst.snd.snd.snd.fst) : Int)) ∧ Wr (x_4.snd.fst ≤ x_4.snd.fst) ∧ Wr (x_4.snd.snd = x_4.snd.snd) ∧
  Wr ((List.getD x.fst.snd.fst (Int.toNat x_3) (Ty.zero FatT)).fst.fst = (List.getD x.fst.snd.fst (Int.toNat x_3) (Ty.zero FatT)).fst.fst) ∧ Wr ((List.getD x.fst.snd.fst (Int.toNat x_3) (Ty.zero FatT)).fst.snd.fst.fst =
  (List.getD x.fst.snd.fst (Int.toNat x_3) (Ty.zero FatT)).fst.snd.fst.fst) ∧ Wr ((List.getD x.fst.snd.fst (Int.toNat x_3) (Ty.zero FatT)).fst.snd.fst.snd.fst = (List.getD x.fst.snd.fst (Int.toNat x_3) (Ty.zero
  FatT)).fst.snd.fst.snd.fst) ∧ Wr ((List.getD x.fst.snd.fst (Int.toNat x_3) (Ty.zero FatT)).fst.snd.fst.snd.snd.fst = (List.getD x.fst.snd.fst (Int.toNat x_3) (Ty.zero FatT)).fst.snd.fst.snd.snd.fst) ∧ Wr ((List.getD
  x.fst.snd.fst (Int.toNat x_3) (Ty.zero FatT)).fst.snd.fst.snd.snd.snd.fst = (List.getD x.fst.snd.fst (Int.toNat x_3) (Ty.zero FatT)).fst.snd.fst.snd.snd.snd.fst) ∧ Wr ((List.getD x.fst.snd.fst (Int.toNat x_3) (Ty.zero
  FatT)).fst.snd.fst.snd.snd.snd.snd.fst = (List.getD x.fst.snd.fst (Int.toNat x_3) (Ty.zero FatT)).fst.snd.fst.snd.snd.snd.snd.fst) ∧ Wr ((List.getD x.fst.snd.fst (Int.toNat x_3) (Ty.zero
  FatT)).fst.snd.fst.snd.snd.snd.snd.snd.fst = (List.getD x.fst.snd.fst (Int.toNat x_3) (Ty.zero FatT)).fst.snd.fst.snd.snd.snd.snd.snd.fst) ∧ Wr ((List.getD x.fst.snd.fst (Int.toNat x_3) (Ty.zero
  FatT)).fst.snd.fst.snd.snd.snd.snd.snd.snd.fst = (List.getD x.fst.snd.fst (Int.toNat x_3) (Ty.zero FatT)).fst.snd.fst.snd.snd.snd.snd.snd.snd.fst) ∧ Wr ((List.getD x.fst.snd.fst (Int.toNat x_3) (Ty.zero
  FatT)).fst.snd.fst.snd.snd.snd.snd.snd.snd.snd.fst = (List.getD x.fst.snd.fst (Int.toNat x_3) (Ty.zero FatT)).fst.snd.fst.snd.snd.snd.snd.snd.snd.snd.fst) ∧ Wr ((List.getD x.fst.snd.fst (Int.toNat x_3) (Ty.zero
  FatT)).fst.snd.snd.fst = (List.getD x.fst.snd.fst (Int.toNat x_3) (Ty.zero FatT)).fst.snd.snd.fst) ∧ Wr ((List.getD x.fst.snd.fst (Int.toNat x_3) (Ty.zero FatT)).snd.fst = (List.getD x.fst.snd.fst (Int.toNat x_3)
  (Ty.zero FatT)).snd.fst) ∧ Wr (x_2.snd.fst ≤ x_2.snd.fst) ∧ Wr (x_2.snd.snd = x_2.snd.snd) ∧ Wr ((List.getD x.fst.fst (Int.toNat x_1) (Ty.zero ZoneT)).fst = (List.getD x.fst.fst (Int.toNat x_1) (Ty.zero ZoneT)).fst) ∧
  Wr ((List.getD x.fst.fst (Int.toNat x_1) (Ty.zero ZoneT)).snd.fst = (List.getD x.fst.fst (Int.toNat x_1) (Ty.zero ZoneT)).snd.fst) ∧ Wr (x.fst.fst = x.fst.fst) ∧ Wr (x.fst.snd.fst = x.fst.snd.fst) ∧ Wr
  (x.fst.snd.snd.fst = x.fst.snd.snd.fst) ∧ Wr (x.fst.snd.snd.snd.fst = x.fst.snd.snd.snd.fst)) ∧ ∀ (x_5 : Int), Wr (IdxI (notB dropOk) x.fst.snd.snd.snd.fst x_5) → bcase (Decidable.decide (x_5 < (↑(List.length
  x.fst.snd.snd.snd.fst) : Int))) (Wr ((0 : Int) ≤ x_5) ∧ Wr (x_5 < (↑(List.length x.fst.snd.snd.snd.fst) : Int)) ∧ Wr (Bool.true = Bool.true) ∧ Wr (Bool.true = Bool.true) ∧ bcase (!dropOk (List.getD x.fst.snd.snd.snd.fst
  (Int.toNat x_5) (0 : Int))) (bcase (Bool.true && (Bool.true && !Decidable.decide (x_5 ≥ (0 : Int)))) (((0 : Int), ()) = (check x.fst, ())) (((90 : Int), ()) = (check x.fst, ()))) (Wr (IdxI (notB dropOk)
  x.fst.snd.snd.snd.fst (IntKind.wrap IntKind.i64 (x_5 + (1 : Int)))) ∧ Wr (List.length x.fst.snd.snd.snd.fst - Int.toNat (IntKind.wrap IntKind.i64 (x_5 + (1 : Int))) < List.length x.fst.snd.snd.snd.fst - Int.toNat x_5) ∧
  Wr (IntKind.wrap IntKind.i64 (x_5 + (1 : Int)) = IntKind.wrap IntKind.i64 (x_5 + (1 : Int))) ∧ Wr (x.fst.snd.snd.snd.fst = x.fst.snd.snd.snd.fst) ∧ Wr (x.fst.snd.snd.snd.fst = x.fst.snd.snd.snd.fst) ∧ Wr ((↑(List.length
  x.fst.snd.snd.snd.fst) : Int) = (↑(List.length x.fst.snd.snd.snd.fst) : Int)) ∧ Wr (x_4.snd.fst ≤ x_4.snd.fst) ∧ Wr (x_4.snd.snd = x_4.snd.snd) ∧ Wr ((List.getD x.fst.snd.fst (Int.toNat x_3) (Ty.zero FatT)).fst.fst =
  (List.getD x.fst.snd.fst (Int.toNat x_3) (Ty.zero FatT)).fst.fst) ∧ Wr ((List.getD x.fst.snd.fst (Int.toNat x_3) (Ty.zero FatT)).fst.snd.fst.fst = (List.getD x.fst.snd.fst (Int.toNat x_3) (Ty.zero
  FatT)).fst.snd.fst.fst) ∧ Wr ((List.getD x.fst.snd.fst (Int.toNat x_3) (Ty.zero FatT)).fst.snd.fst.snd.fst = (List.getD x.fst.snd.fst (Int.toNat x_3) (Ty.zero FatT)).fst.snd.fst.snd.fst) ∧ Wr ((List.getD x.fst.snd.fst
  (Int.toNat x_3) (Ty.zero FatT)).fst.snd.fst.snd.snd.fst = (List.getD x.fst.snd.fst (Int.toNat x_3) (Ty.zero FatT)).fst.snd.fst.snd.snd.fst) ∧ Wr ((List.getD x.fst.snd.fst (Int.toNat x_3) (Ty.zero
  FatT)).fst.snd.fst.snd.snd.snd.fst = (List.getD x.fst.snd.fst (Int.toNat x_3) (Ty.zero FatT)).fst.snd.fst.snd.snd.snd.fst) ∧ Wr ((List.getD x.fst.snd.fst (Int.toNat x_3) (Ty.zero FatT)).fst.snd.fst.snd.snd.snd.snd.fst =
  (List.getD x.fst.snd.fst (Int.toNat x_3) (Ty.zero FatT)).fst.snd.fst.snd.snd.snd.snd.fst) ∧ Wr ((List.getD x.fst.snd.fst (Int.toNat x_3) (Ty.zero FatT)).fst.snd.fst.snd.snd.snd.snd.snd.fst = (List.getD x.fst.snd.fst
  (Int.toNat x_3) (Ty.zero FatT)).fst.snd.fst.snd.snd.snd.snd.snd.fst) ∧ Wr ((List.getD x.fst.snd.fst (Int.toNat x_3) (Ty.zero FatT)).fst.snd.fst.snd.snd.snd.snd.snd.snd.fst = (List.getD x.fst.snd.fst (Int.toNat x_3)
  (Ty.zero FatT)).fst.snd.fst.snd.snd.snd.snd.snd.snd.fst) ∧ Wr ((List.getD x.fst.snd.fst (Int.toNat x_3) (Ty.zero FatT)).fst.snd.fst.snd.snd.snd.snd.snd.snd.snd.fst = (List.getD x.fst.snd.fst (Int.toNat x_3) (Ty.zero
  FatT)).fst.snd.fst.snd.snd.snd.snd.snd.snd.snd.fst) ∧ Wr ((List.getD x.fst.snd.fst (Int.toNat x_3) (Ty.zero FatT)).fst.snd.snd.fst = (List.getD x.fst.snd.fst (Int.toNat x_3) (Ty.zero FatT)).fst.snd.snd.fst) ∧ Wr
  ((List.getD x.fst.snd.fst (Int.toNat x_3) (Ty.zero FatT)).snd.fst = (List.getD x.fst.snd.fst (Int.toNat x_3) (Ty.zero FatT)).snd.fst) ∧ Wr (x_2.snd.fst ≤ x_2.snd.fst) ∧ Wr (x_2.snd.snd = x_2.snd.snd) ∧ Wr ((List.getD
  x.fst.fst (Int.toNat x_1) (Ty.zero ZoneT)).fst = (List.getD x.fst.fst (Int.toNat x_1) (Ty.zero ZoneT)).fst) ∧ Wr ((List.getD x.fst.fst (Int.toNat x_1) (Ty.zero ZoneT)).snd.fst = (List.getD x.fst.fst (Int.toNat x_1)
  (Ty.zero ZoneT)).snd.fst) ∧ Wr (x.fst.fst = x.fst.fst) ∧ Wr (x.fst.snd.fst = x.fst.snd.fst) ∧ Wr (x.fst.snd.snd.fst = x.fst.snd.snd.fst) ∧ Wr (x.fst.snd.snd.snd.fst = x.fst.snd.snd.snd.fst))) (((0 : Int), ()) = (check
  x.fst, ()))) (((90 : Int), ()) = (check x.fst, ()))) (((90 : Int), ()) = (check x.fst, ())))) (((90 : Int), ()) = (check x.fst, ()))) (Wr (IdxI (notB fateOk) x.fst.snd.fst (IntKind.wrap IntKind.i64 (x_3 + (1 : Int)))) ∧
  Wr (List.length x.fst.snd.fst - Int.toNat (IntKind.wrap IntKind.i64 (x_3 + (1 : Int))) < List.length x.fst.snd.fst - Int.toNat x_3) ∧ Wr (IntKind.wrap IntKind.i64 (x_3 + (1 : Int)) = IntKind.wrap IntKind.i64 (x_3 + (1 :
  Int))) ∧ Wr (x.fst.snd.fst = x.fst.snd.fst) ∧ Wr (x.fst.snd.fst = x.fst.snd.fst) ∧ Wr ((↑(List.length x.fst.snd.fst) : Int) = (↑(List.length x.fst.snd.fst) : Int)) ∧ Wr (x_2.snd.fst ≤ x_2.snd.fst) ∧ Wr (x_2.snd.snd =
  x_2.snd.snd) ∧ Wr ((List.getD x.fst.fst (Int.toNat x_1) (Ty.zero ZoneT)).fst = (List.getD x.fst.fst (Int.toNat x_1) (Ty.zero ZoneT)).fst) ∧ Wr ((List.getD x.fst.fst (Int.toNat x_1) (Ty.zero ZoneT)).snd.fst = (List.getD
  x.fst.fst (Int.toNat x_1) (Ty.zero ZoneT)).snd.fst) ∧ Wr (x.fst.fst = x.fst.fst) ∧ Wr (x.fst.snd.fst = x.fst.snd.fst) ∧ Wr (x.fst.snd.snd.fst = x.fst.snd.snd.fst) ∧ Wr (x.fst.snd.snd.snd.fst = x.fst.snd.snd.snd.fst)))
  ((Wr (UnlI adOf x.fst.snd.fst (0 : Int) (0 : Nat) fun (x : Int × (Int × Int × Int × Int × Int × Int × Int × Int × Unit) × Int × Unit) => noneO Int) ∧ Wr ((0 : Int) = (0 : Int)) ∧ Wr (x.fst.snd.fst = x.fst.snd.fst) ∧ Wr
  (x.fst.snd.fst = x.fst.snd.fst) ∧ Wr ((↑(List.length x.fst.snd.fst) : Int) = (↑(List.length x.fst.snd.fst) : Int)) ∧ Wr ((0 : Nat) ≤ (0 : Nat)) ∧ Wr ((fun (x : Int × (Int × Int × Int × Int × Int × Int × Int × Int ×
  Unit) × Int × Unit) => noneO Int) = fun (x : Int × (Int × Int × Int × Int × Int × Int × Int × Int × Unit) × Int × Unit) => noneO Int) ∧ Wr (x_2.snd.fst ≤ x_2.snd.fst) ∧ Wr (x_2.snd.snd = x_2.snd.snd) ∧ Wr ((List.getD
  x.fst.fst (Int.toNat x_1) (Ty.zero ZoneT)).fst = (List.getD x.fst.fst (Int.toNat x_1) (Ty.zero ZoneT)).fst) ∧ Wr ((List.getD x.fst.fst (Int.toNat x_1) (Ty.zero ZoneT)).snd.fst = (List.getD x.fst.fst (Int.toNat x_1)
  (Ty.zero ZoneT)).snd.fst) ∧ Wr (x.fst.fst = x.fst.fst) ∧ Wr (x.fst.snd.fst = x.fst.snd.fst) ∧ Wr (x.fst.snd.snd.fst = x.fst.snd.snd.fst) ∧ Wr (x.fst.snd.snd.snd.fst = x.fst.snd.snd.snd.fst)) ∧ ∀ (x_4 : Int × Nat × (Int
  × (Int × Int × Int × Int × Int × Int × Int × Int × Unit) × Int × Unit → Option Int)), Wr (UnlI adOf x.fst.snd.fst x_4.fst x_4.snd.fst x_4.snd.snd) → bcase (Decidable.decide (x_4.fst < (↑(List.length x.fst.snd.fst) :
  Int))) (Wr ((0 : Int) ≤ x_4.fst) ∧ Wr (x_4.fst < (↑(List.length x.fst.snd.fst) : Int)) ∧ Wr (Bool.true = Bool.true) ∧ Wr (x_4.snd.fst < Go.maxLen) ∧ bcase (Decidable.decide (Option.getD (updF AdT I64 x_4.snd.snd
  (List.getD x.fst.snd.fst (Int.toNat x_4.fst) (Ty.zero FatT)).fst (IntKind.wrap IntKind.i64 (Option.getD (x_4.snd.snd (List.getD x.fst.snd.fst (Int.toNat x_4.fst) (Ty.zero FatT)).fst) (0 : Int) + (1 : Int))) (List.getD
  x.fst.snd.fst (Int.toNat x_4.fst) (Ty.zero FatT)).fst) (0 : Int) > (1 : Int))) (((90 : Int), ()) = (check x.fst, ())) (Wr (UnlI adOf x.fst.snd.fst (IntKind.wrap IntKind.i64 (x_4.fst + (1 : Int))) (x_4.snd.fst + (1 :
  Nat)) (updF AdT I64 x_4.snd.snd (List.getD x.fst.snd.fst (Int.toNat x_4.fst) (Ty.zero FatT)).fst (IntKind.wrap IntKind.i64 (Option.getD (x_4.snd.snd (List.getD x.fst.snd.fst (Int.toNat x_4.fst) (Ty.zero FatT)).fst) (0 :
  Int) + (1 : Int))))) ∧ Wr (List.length x.fst.snd.fst - Int.toNat (IntKind.wrap IntKind.i64 (x_4.fst + (1 : Int))) < List.length x.fst.snd.fst - Int.toNat x_4.fst) ∧ Wr (IntKind.wrap IntKind.i64 (x_4.fst + (1 : Int)) =
  IntKind.wrap IntKind.i64 (x_4.fst + (1 : Int))) ∧ Wr (x.fst.snd.fst = x.fst.snd.fst) ∧ Wr (x.fst.snd.fst = x.fst.snd.fst) ∧ Wr ((↑(List.length x.fst.snd.fst) : Int) = (↑(List.length x.fst.snd.fst) : Int)) ∧ Wr
  (x_4.snd.fst + (1 : Nat) ≤ x_4.snd.fst + (1 : Nat)) ∧ Wr (updF AdT I64 x_4.snd.snd (List.getD x.fst.snd.fst (Int.toNat x_4.fst) (Ty.zero FatT)).fst (IntKind.wrap IntKind.i64 (Option.getD (x_4.snd.snd (List.getD
  x.fst.snd.fst (Int.toNat x_4.fst) (Ty.zero FatT)).fst) (0 : Int) + (1 : Int))) = updF AdT I64 x_4.snd.snd (List.getD x.fst.snd.fst (Int.toNat x_4.fst) (Ty.zero FatT)).fst (IntKind.wrap IntKind.i64 (Option.getD
  (x_4.snd.snd (List.getD x.fst.snd.fst (Int.toNat x_4.fst) (Ty.zero FatT)).fst) (0 : Int) + (1 : Int)))) ∧ Wr (x_2.snd.fst ≤ x_2.snd.fst) ∧ Wr (x_2.snd.snd = x_2.snd.snd) ∧ Wr ((List.getD x.fst.fst (Int.toNat x_1)
  (Ty.zero ZoneT)).fst = (List.getD x.fst.fst (Int.toNat x_1) (Ty.zero ZoneT)).fst) ∧ Wr ((List.getD x.fst.fst (Int.toNat x_1) (Ty.zero ZoneT)).snd.fst = (List.getD x.fst.fst (Int.toNat x_1) (Ty.zero ZoneT)).snd.fst) ∧ Wr
  (x.fst.fst = x.fst.fst) ∧ Wr (x.fst.snd.fst = x.fst.snd.fst) ∧ Wr (x.fst.snd.snd.fst = x.fst.snd.snd.fst) ∧ Wr (x.fst.snd.snd.snd.fst = x.fst.snd.snd.snd.fst))) (bcase (Bool.true && Bool.true && Decidable.decide
  (x.fst.snd.snd.fst ≥ (0 : Int)) && Decidable.decide (x.fst.snd.snd.fst ≤ (200 : Int))) (bcase (Decidable.decide ((↑(List.length x.fst.snd.snd.snd.fst) : Int) ≥ (0 : Int)) && Decidable.decide ((↑(List.length
  x.fst.snd.snd.snd.fst) : Int) ≤ (16 : Int))) ((Wr (IdxI (notB dropOk) x.fst.snd.snd.snd.fst (0 : Int)) ∧ Wr ((0 : Int) = (0 : Int)) ∧ Wr (x.fst.snd.snd.snd.fst = x.fst.snd.snd.snd.fst) ∧ Wr (x.fst.snd.snd.snd.fst =
  x.fst.snd.snd.snd.fst) ∧ Wr ((↑(List.length x.fst.snd.snd.snd.fst) : Int) = (↑(List.length x.fst.snd.snd.snd.fst) : Int)) ∧ Wr (x_4.snd.fst ≤ x_4.snd.fst) ∧ Wr (x_4.snd.snd = x_4.snd.snd) ∧ Wr (x_2.snd.fst ≤
  x_2.snd.fst) ∧ Wr (x_2.snd.snd = x_2.snd.snd) ∧ Wr ((List.getD x.fst.fst (Int.toNat x_1) (Ty.zero ZoneT)).fst = (List.getD x.fst.fst (Int.toNat x_1) (Ty.zero ZoneT)).fst) ∧ Wr ((List.getD x.fst.fst (Int.toNat x_1)
  (Ty.zero ZoneT)).snd.fst = (List.getD x.fst.fst (Int.toNat x_1) (Ty.zero ZoneT)).snd.fst) ∧ Wr (x.fst.fst = x.fst.fst) ∧ Wr (x.fst.snd.fst = x.fst.snd.fst) ∧ Wr (x.fst.snd.snd.fst = x.fst.snd.snd.fst) ∧ Wr
  (x.fst.snd.snd.snd.fst = x.fst.snd.snd.snd.fst)) ∧ ∀ (x_5 : Int), Wr (IdxI (notB dropOk) x.fst.snd.snd.snd.fst x_5) → bcase (Decidable.decide (x_5 < (↑(List.length x.fst.snd.snd.snd.fst) : Int))) (Wr ((0 : Int) ≤ x_5) ∧
  Wr (x_5 < (↑(List.length x.fst.snd.snd.snd.fst) : Int)) ∧ Wr (Bool.true = Bool.true) ∧ Wr (Bool.true = Bool.true) ∧ bcase (!dropOk (List.getD x.fst.snd.snd.snd.fst (Int.toNat x_5) (0 : Int))) (bcase (Bool.true &&
  (Bool.true && !Decidable.decide (x_5 ≥ (0 : Int)))) (((0 : Int), ()) = (check x.fst, ())) (((90 : Int), ()) = (check x.fst, ()))) (Wr (IdxI (notB dropOk) x.fst.snd.snd.snd.fst (IntKind.wrap IntKind.i64 (x_5 + (1 :
  Int)))) ∧ Wr (List.length x.fst.snd.snd.snd.fst - Int.toNat (IntKind.wrap IntKind.i64 (x_5 + (1 : Int))) < List.length x.fst.snd.snd.snd.fst - Int.toNat x_5) ∧ Wr (IntKind.wrap IntKind.i64 (x_5 + (1 : Int)) =
  IntKind.wrap IntKind.i64 (x_5 + (1 : Int))) ∧ Wr (x.fst.snd.snd.snd.fst = x.fst.snd.snd.snd.fst) ∧ Wr (x.fst.snd.snd.snd.fst = x.fst.snd.snd.snd.fst) ∧ Wr ((↑(List.length x.fst.snd.snd.snd.fst) : Int) = (↑(List.length
  x.fst.snd.snd.snd.fst) : Int)) ∧ Wr (x_4.snd.fst ≤ x_4.snd.fst) ∧ Wr (x_4.snd.snd = x_4.snd.snd) ∧ Wr (x_2.snd.fst ≤ x_2.snd.fst) ∧ Wr (x_2.snd.snd = x_2.snd.snd) ∧ Wr ((List.getD x.fst.fst (Int.toNat x_1) (Ty.zero
  ZoneT)).fst = (List.getD x.fst.fst (Int.toNat x_1) (Ty.zero ZoneT)).fst) ∧ Wr ((List.getD x.fst.fst (Int.toNat x_1) (Ty.zero ZoneT)).snd.fst = (List.getD x.fst.fst (Int.toNat x_1) (Ty.zero ZoneT)).snd.fst) ∧ Wr
  (x.fst.fst = x.fst.fst) ∧ Wr (x.fst.snd.fst = x.fst.snd.fst) ∧ Wr (x.fst.snd.snd.fst = x.fst.snd.snd.fst) ∧ Wr (x.fst.snd.snd.snd.fst = x.fst.snd.snd.snd.fst))) (((0 : Int), ()) = (check x.fst, ()))) (((90 : Int), ()) =
  (check x.fst, ()))) (((90 : Int), ()) = (check x.fst, ()))))) (((90 : Int), ()) = (check x.fst, ())))) (((90 : Int), ()) = (check x.fst, ()))) (Wr (IdxI (notB zoneOk) x.fst.fst (IntKind.wrap IntKind.i64 (x_1 + (1 :
  Int)))) ∧ Wr (List.length x.fst.fst - Int.toNat (IntKind.wrap IntKind.i64 (x_1 + (1 : Int))) < List.length x.fst.fst - Int.toNat x_1) ∧ Wr (IntKind.wrap IntKind.i64 (x_1 + (1 : Int)) = IntKind.wrap IntKind.i64 (x_1 + (1
  : Int))) ∧ Wr (x.fst.fst = x.fst.fst) ∧ Wr (x.fst.fst = x.fst.fst) ∧ Wr ((↑(List.length x.fst.fst) : Int) = (↑(List.length x.fst.fst) : Int)) ∧ Wr (x.fst.fst = x.fst.fst) ∧ Wr (x.fst.snd.fst = x.fst.snd.fst) ∧ Wr
  (x.fst.snd.snd.fst = x.fst.snd.snd.fst) ∧ Wr (x.fst.snd.snd.snd.fst = x.fst.snd.snd.snd.fst))) ((Wr (UnlI nameOf x.fst.fst (0 : Int) (0 : Nat) fun (x : ByteArray) => noneO Int) ∧ Wr ((0 : Int) = (0 : Int)) ∧ Wr
  (x.fst.fst = x.fst.fst) ∧ Wr (x.fst.fst = x.fst.fst) ∧ Wr ((↑(List.length x.fst.fst) : Int) = (↑(List.length x.fst.fst) : Int)) ∧ Wr ((0 : Nat) ≤ (0 : Nat)) ∧ Wr ((fun (x : ByteArray) => noneO Int) = fun (x : ByteArray)
  => noneO Int) ∧ Wr (x.fst.fst = x.fst.fst) ∧ Wr (x.fst.snd.fst = x.fst.snd.fst) ∧ Wr (x.fst.snd.snd.fst = x.fst.snd.snd.fst) ∧ Wr (x.fst.snd.snd.snd.fst = x.fst.snd.snd.snd.fst)) ∧ ∀ (x_2 : Int × Nat × (ByteArray →
  Option Int)), Wr (UnlI nameOf x.fst.fst x_2.fst x_2.snd.fst x_2.snd.snd) → bcase (Decidable.decide (x_2.fst < (↑(List.length x.fst.fst) : Int))) (Wr ((0 : Int) ≤ x_2.fst) ∧ Wr (x_2.fst < (↑(List.length x.fst.fst) :
  Int)) ∧ Wr (Bool.true = Bool.true) ∧ Wr (x_2.snd.fst < Go.maxLen) ∧ bcase (Decidable.decide (Option.getD (updF Ty.str I64 x_2.snd.snd (List.getD x.fst.fst (Int.toNat x_2.fst) (Ty.zero ZoneT)).fst (IntKind.wrap
  IntKind.i64 (Option.getD (x_2.snd.snd (List.getD x.fst.fst (Int.toNat x_2.fst) (Ty.zero ZoneT)).fst) (0 : Int) + (1 : Int))) (List.getD x.fst.fst (Int.toNat x_2.fst) (Ty.zero ZoneT)).fst) (0 : Int) > (1 : Int))) (((90 :
  Int), ()) = (check x.fst, ())) (Wr (UnlI nameOf x.fst.fst (IntKind.wrap IntKind.i64 (x_2.fst + (1 : Int))) (x_2.snd.fst + (1 : Nat)) (updF Ty.str I64 x_2.snd.snd (List.getD x.fst.fst (Int.toNat x_2.fst) (Ty.zero
  ZoneT)).fst (IntKind.wrap IntKind.i64 (Option.getD (x_2.snd.snd (List.getD x.fst.fst (Int.toNat x_2.fst) (Ty.zero ZoneT)).fst) (0 : Int) + (1 : Int))))) ∧ Wr (List.length x.fst.fst - Int.toNat (IntKind.wrap IntKind.i64
  (x_2.fst + (1 : Int))) < List.length x.fst.fst - Int.toNat x_2.fst) ∧ Wr (IntKind.wrap IntKind.i64 (x_2.fst + (1 : Int)) = IntKind.wrap IntKind.i64 (x_2.fst + (1 : Int))) ∧ Wr (x.fst.fst = x.fst.fst) ∧ Wr (x.fst.fst =
  x.fst.fst) ∧ Wr ((↑(List.length x.fst.fst) : Int) = (↑(List.length x.fst.fst) : Int)) ∧ Wr (x_2.snd.fst + (1 : Nat) ≤ x_2.snd.fst + (1 : Nat)) ∧ Wr (updF Ty.str I64 x_2.snd.snd (List.getD x.fst.fst (Int.toNat x_2.fst)
  (Ty.zero ZoneT)).fst (IntKind.wrap IntKind.i64 (Option.getD (x_2.snd.snd (List.getD x.fst.fst (Int.toNat x_2.fst) (Ty.zero ZoneT)).fst) (0 : Int) + (1 : Int))) = updF Ty.str I64 x_2.snd.snd (List.getD x.fst.fst
  (Int.toNat x_2.fst) (Ty.zero ZoneT)).fst (IntKind.wrap IntKind.i64 (Option.getD (x_2.snd.snd (List.getD x.fst.fst (Int.toNat x_2.fst) (Ty.zero ZoneT)).fst) (0 : Int) + (1 : Int)))) ∧ Wr (x.fst.fst = x.fst.fst) ∧ Wr
  (x.fst.snd.fst = x.fst.snd.fst) ∧ Wr (x.fst.snd.snd.fst = x.fst.snd.snd.fst) ∧ Wr (x.fst.snd.snd.snd.fst = x.fst.snd.snd.snd.fst))) (bcase (Decidable.decide ((↑(List.length x.fst.snd.fst) : Int) ≥ (0 : Int)) &&
  Decidable.decide ((↑(List.length x.fst.snd.fst) : Int) ≤ (32 : Int))) ((Wr (IdxI (notB fateOk) x.fst.snd.fst (0 : Int)) ∧ Wr ((0 : Int) = (0 : Int)) ∧ Wr (x.fst.snd.fst = x.fst.snd.fst) ∧ Wr (x.fst.snd.fst =
  x.fst.snd.fst) ∧ Wr ((↑(List.length x.fst.snd.fst) : Int) = (↑(List.length x.fst.snd.fst) : Int)) ∧ Wr (x_2.snd.fst ≤ x_2.snd.fst) ∧ Wr (x_2.snd.snd = x_2.snd.snd) ∧ Wr (x.fst.fst = x.fst.fst) ∧ Wr (x.fst.snd.fst =
  x.fst.snd.fst) ∧ Wr (x.fst.snd.snd.fst = x.fst.snd.snd.fst) ∧ Wr (x.fst.snd.snd.snd.fst = x.fst.snd.snd.snd.fst)) ∧ ∀ (x_3 : Int), Wr (IdxI (notB fateOk) x.fst.snd.fst x_3) → bcase (Decidable.decide (x_3 <
  (↑(List.length x.fst.snd.fst) : Int))) (Wr ((0 : Int) ≤ x_3) ∧ Wr (x_3 < (↑(List.length x.fst.snd.fst) : Int)) ∧ Wr (Bool.true = Bool.true) ∧ Wr (Bool.true = Bool.true) ∧ bcase (!fateOk (List.getD x.fst.snd.fst
  (Int.toNat x_3) (Ty.zero FatT))) (bcase (Bool.true && (Bool.true && !Decidable.decide (x_3 ≥ (0 : Int)))) ((Wr (UnlI adOf x.fst.snd.fst (0 : Int) (0 : Nat) fun (x : Int × (Int × Int × Int × Int × Int × Int × Int × Int ×
  Unit) × Int × Unit) => noneO Int) ∧ Wr ((0 : Int) = (0 : Int)) ∧ Wr (x.fst.snd.fst = x.fst.snd.fst) ∧ Wr (x.fst.snd.fst = x.fst.snd.fst) ∧ Wr ((↑(List.length x.fst.snd.fst) : Int) = (↑(List.length x.fst.snd.fst) : Int))
  ∧ Wr ((0 : Nat) ≤ (0 : Nat)) ∧ Wr ((fun (x : Int × (Int × Int × Int × Int × Int × Int × Int × Int × Unit) × Int × Unit) => noneO Int) = fun (x : Int × (Int × Int × Int × Int × Int × Int × Int × Int × Unit) × Int × Unit)
  => noneO Int) ∧ Wr ((List.getD x.fst.snd.fst (Int.toNat x_3) (Ty.zero FatT)).fst.fst = (List.getD x.fst.snd.fst (Int.toNat x_3) (Ty.zero FatT)).fst.fst) ∧ Wr ((List.getD x.fst.snd.fst (Int.toNat x_3) (Ty.zero
  FatT)).fst.snd.fst.fst = (List.getD x.fst.snd.fst (Int.toNat x_3) (Ty.zero FatT)).fst.snd.fst.fst) ∧ Wr ((List.getD x.fst.snd.fst (Int.toNat x_3) (Ty.zero FatT)).fst.snd.fst.snd.fst = (List.getD x.fst.snd.fst (Int.toNat
  x_3) (Ty.zero FatT)).fst.snd.fst.snd.fst) ∧ Wr ((List.getD x.fst.snd.fst (Int.toNat x_3) (Ty.zero FatT)).fst.snd.fst.snd.snd.fst = (List.getD x.fst.snd.fst (Int.toNat x_3) (Ty.zero FatT)).fst.snd.fst.snd.snd.fst) ∧ Wr
  ((List.getD x.fst.snd.fst (Int.toNat x_3) (Ty.zero FatT)).fst.snd.fst.snd.snd.snd.fst = (List.getD x.fst.snd.fst (Int.toNat x_3) (Ty.zero FatT)).fst.snd.fst.snd.snd.snd.fst) ∧ Wr ((List.getD x.fst.snd.fst (Int.toNat
  x_3) (Ty.zero FatT)).fst.snd.fst.snd.snd.snd.snd.fst = (List.getD x.fst.snd.fst (Int.toNat x_3) (Ty.zero FatT)).fst.snd.fst.snd.snd.snd.snd.fst) ∧ Wr ((List.getD x.fst.snd.fst (Int.toNat x_3) (Ty.zero
  FatT)).fst.snd.fst.snd.snd.snd.snd.snd.fst = (List.getD x.fst.snd.fst (Int.toNat x_3) (Ty.zero FatT)).fst.snd.fst.snd.snd.snd.snd.snd.fst) ∧ Wr ((List.getD x.fst.snd.fst (Int.toNat x_3) (Ty.zero
  FatT)).fst.snd.fst.snd.snd.snd.snd.snd.snd.fst = (List.getD x.fst.snd.fst (Int.toNat x_3) (Ty.zero FatT)).fst.snd.fst.snd.snd.snd.snd.snd.snd.fst) ∧ Wr ((List.getD x.fst.snd.fst (Int.toNat x_3) (Ty.zero
  FatT)).fst.snd.fst.snd.snd.snd.snd.snd.snd.snd.fst = (List.getD x.fst.snd.fst (Int.toNat x_3) (Ty.zero FatT)).fst.snd.fst.snd.snd.snd.snd.snd.snd.snd.fst) ∧ Wr ((List.getD x.fst.snd.fst (Int.toNat x_3) (Ty.zero
  FatT)).fst.snd.snd.fst = (List.getD x.fst.snd.fst (Int.toNat x_3) (Ty.zero FatT)).fst.snd.snd.fst) ∧ Wr ((List.getD x.fst.snd.fst (Int.toNat x_3) (Ty.zero FatT)).snd.fst = (List.getD x.fst.snd.fst (Int.toNat x_3)
  (Ty.zero FatT)).snd.fst) ∧ Wr (x_2.snd.fst ≤ x_2.snd.fst) ∧ Wr (x_2.snd.snd = x_2.snd.snd) ∧ Wr (x.fst.fst = x.fst.fst) ∧ Wr (x.fst.snd.fst = x.fst.snd.fst) ∧ Wr (x.fst.snd.snd.fst = x.fst.snd.snd.fst) ∧ Wr
  (x.fst.snd.snd.snd.fst = x.fst.snd.snd.snd.fst)) ∧ ∀ (x_4 : Int × Nat × (Int × (Int × Int × Int × Int × Int × Int × Int × Int × Unit) × Int × Unit → Option Int)), Wr (UnlI adOf x.fst.snd.fst x_4.fst x_4.snd.fst
  x_4.snd.snd) → bcase (Decidable.decide (x_4.fst < (↑(List.length x.fst.snd.fst) : Int))) (Wr ((0 : Int) ≤ x_4.fst) ∧ Wr (x_4.fst < (↑(List.length x.fst.snd.fst) : Int)) ∧ Wr (Bool.true = Bool.true) ∧ Wr (x_4.snd.fst <
  Go.maxLen) ∧ bcase (Decidable.decide (Option.getD (updF AdT I64 x_4.snd.snd (List.getD x.fst.snd.fst (Int.toNat x_4.fst) (Ty.zero FatT)).fst (IntKind.wrap IntKind.i64 (Option.getD (x_4.snd.snd (List.getD x.fst.snd.fst
  (Int.toNat x_4.fst) (Ty.zero FatT)).fst) (0 : Int) + (1 : Int))) (List.getD x.fst.snd.fst (Int.toNat x_4.fst) (Ty.zero FatT)).fst) (0 : Int) > (1 : Int))) (((90 : Int), ()) = (check x.fst, ())) (Wr (UnlI adOf
  x.fst.snd.fst (IntKind.wrap IntKind.i64 (x_4.fst + (1 : Int))) (x_4.snd.fst + (1 : Nat)) (updF AdT I64 x_4.snd.snd (List.getD x.fst.snd.fst (Int.toNat x_4.fst) (Ty.zero FatT)).fst (IntKind.wrap IntKind.i64 (Option.getD
  (x_4.snd.snd (List.getD x.fst.snd.fst (Int.toNat x_4.fst) (Ty.zero FatT)).fst) (0 : Int) + (1 : Int))))) ∧ Wr (List.length x.fst.snd.fst - Int.toNat (IntKind.wrap IntKind.i64 (x_4.fst + (1 : Int))) < List.length
  x.fst.snd.fst - Int.toNat x_4.fst) ∧ Wr (IntKind.wrap IntKind.i64 (x_4.fst + (1 : Int)) = IntKind.wrap IntKind.i64 (x_4.fst + (1 : Int))) ∧ Wr (x.fst.snd.fst = x.fst.snd.fst) ∧ Wr (x.fst.snd.fst = x.fst.snd.fst) ∧ Wr
  ((↑(List.length x.fst.snd.fst) : Int) = (↑(List.length x.fst.snd.fst) : Int)) ∧ Wr (x_4.snd.fst + (1 : Nat) ≤ x_4.snd.fst + (1 : Nat)) ∧ Wr (updF AdT I64 x_4.snd.snd (List.getD x.fst.snd.fst (Int.toNat x_4.fst) (Ty.zero
  FatT)).fst (IntKind.wrap IntKind.i64 (Option.getD (x_4.snd.snd (List.getD x.fst.snd.fst (Int.toNat x_4.fst) (Ty.zero FatT)).fst) (0 : Int) + (1 : Int))) = updF AdT I64 x_4.snd.snd (List.getD x.fst.snd.fst (Int.toNat
  x_4.fst) (Ty.zero FatT)).fst (IntKind.wrap IntKind.i64 (Option.getD (x_4.snd.snd (List.getD x.fst.snd.fst (Int.toNat x_4.fst) (Ty.zero FatT)).fst) (0 : Int) + (1 : Int)))) ∧ Wr ((List.getD x.fst.snd.fst (Int.toNat x_3)
  (Ty.zero FatT)).fst.fst = (List.getD x.fst.snd.fst (Int.toNat x_3) (Ty.zero FatT)).fst.fst) ∧ Wr ((List.getD x.fst.snd.fst (Int.toNat x_3) (Ty.zero FatT)).fst.snd.fst.fst = (List.getD x.fst.snd.fst (Int.toNat x_3)
  (Ty.zero FatT)).fst.snd.fst.fst) ∧ Wr ((List.getD x.fst.snd.fst (Int.toNat x_3) (Ty.zero FatT)).fst.snd.fst.snd.fst = (List.getD x.fst.snd.fst (Int.toNat x_3) (Ty.zero FatT)).fst.snd.fst.snd.fst) ∧ Wr ((List.getD
  x.fst.snd.fst (Int.toNat x_3) (Ty.zero FatT)).fst.snd.fst.snd.snd.fst = (List.getD x.fst.snd.fst (Int.toNat x_3) (Ty.zero FatT)).fst.snd.fst.snd.snd.fst) ∧ Wr ((List.getD x.fst.snd.fst (Int.toNat x_3) (Ty.zero
  FatT)).fst.snd.fst.snd.snd.snd.fst = (List.getD x.fst.snd.fst (Int.toNat x_3) (Ty.zero FatT)).fst.snd.fst.snd.snd.snd.fst) ∧ Wr ((List.getD x.fst.snd.fst (Int.toNat x_3) (Ty.zero FatT)).fst.snd.fst.snd.snd.snd.snd.fst =
  (List.getD x.fst.snd.fst (Int.toNat x_3) (Ty.zero FatT)).fst.snd.fst.snd.snd.snd.snd.fst) ∧ Wr ((List.getD x.fst.snd.fst (Int.toNat x_3) (Ty.zero FatT)).fst.snd.fst.snd.snd.snd.snd.snd.fst = (List.getD x.fst.snd.fst
  (Int.toNat x_3) (Ty.zero FatT)).fst.snd.fst.snd.snd.snd.snd.snd.fst) ∧ Wr ((List.getD x.fst.snd.fst (Int.toNat x_3) (Ty.zero FatT)).fst.snd.fst.snd.snd.snd.snd.snd.snd.fst = (List.getD x.fst.snd.fst (Int.toNat x_3)
  (Ty.zero FatT)).fst.snd.fst.snd.snd.snd.snd.snd.snd.fst) ∧ Wr ((List.getD x.fst.snd.fst (Int.toNat x_3) (Ty.zero FatT)).fst.snd.fst.snd.snd.snd.snd.snd.snd.snd.fst = (List.getD x.fst.snd.fst (Int.toNat x_3) (Ty.zero
  FatT)).fst.snd.fst.snd.snd.snd.snd.snd.snd.snd.fst) ∧ Wr ((List.getD x.fst.snd.fst (Int.toNat x_3) (Ty.zero FatT)).fst.snd.snd.fst = (List.getD x.fst.snd.fst (Int.toNat x_3) (Ty.zero FatT)).fst.snd.snd.fst) ∧ Wr
  ((List.getD x.fst.snd.fst (Int.toNat x_3) (Ty.zero FatT)).snd.fst = (List.getD x.fst.snd.fst (Int.toNat x_3) (Ty.zero FatT)).snd.fst) ∧ Wr (x_2.snd.fst ≤ x_2.snd.fst) ∧ Wr (x_2.snd.snd = x_2.snd.snd) ∧ Wr (x.fst.fst =
  x.fst.fst) ∧ Wr (x.fst.snd.fst = x.fst.snd.fst) ∧ Wr (x.fst.snd.snd.fst = x.fst.snd.snd.fst) ∧ Wr (x.fst.snd.snd.snd.fst = x.fst.snd.snd.snd.fst))) (bcase (Bool.true && Bool.true && Decidable.decide (x.fst.snd.snd.fst ≥
  (0 : Int)) && Decidable.decide (x.fst.snd.snd.fst ≤ (200 : Int))) (bcase (Decidable.decide ((↑(List.length x.fst.snd.snd.snd.fst) : Int) ≥ (0 : Int)) && Decidable.decide ((↑(List.length x.fst.snd.snd.snd.fst) : Int) ≤
  (16 : Int))) ((Wr (IdxI (notB dropOk) x.fst.snd.snd.snd.fst (0 : Int)) ∧ Wr ((0 : Int) = (0 : Int)) ∧ Wr (x.fst.snd.snd.snd.fst = x.fst.snd.snd.snd.fst) ∧ Wr (x.fst.snd.snd.snd.fst = x.fst.snd.snd.snd.fst) ∧ Wr
  ((↑(List.length x.fst.snd.snd.snd.fst) : Int) = (↑(List.length x.fst.snd.snd.snd.fst) : Int)) ∧ Wr (x_4.snd.fst ≤ x_4.snd.fst) ∧ Wr (x_4.snd.snd = x_4.snd.snd) ∧ Wr ((List.getD x.fst.snd.fst (Int.toNat x_3) (Ty.zero
  FatT)).fst.fst = (List.getD x.fst.snd.fst (Int.toNat x_3) (Ty.zero FatT)).fst.fst) ∧ Wr ((List.getD x.fst.snd.fst (Int.toNat x_3) (Ty.zero FatT)).fst.snd.fst.fst = (List.getD x.fst.snd.fst (Int.toNat x_3) (Ty.zero
  FatT)).fst.snd.fst.fst) ∧ Wr ((List.getD x.fst.snd.fst (Int.toNat x_3) (Ty.zero FatT)).fst.snd.fst.snd.fst = (List.getD x.fst.snd.fst (Int.toNat x_3) (Ty.zero FatT)).fst.snd.fst.snd.fst) ∧ Wr ((List.getD x.fst.snd.fst
  (Int.toNat x_3) (Ty.zero FatT)).fst.snd.fst.snd.snd.fst = (List.getD x.fst.snd.fst (Int.toNat x_3) (Ty.zero FatT)).fst.snd.fst.snd.snd.fst) ∧ Wr ((List.getD x.fst.snd.fst (Int.toNat x_3) (Ty.zero
  FatT)).fst.snd.fst.snd.snd.snd.fst = (List.getD x.fst.snd.fst (Int.toNat x_3) (Ty.zero FatT)).fst.snd.fst.snd.snd.snd.fst) ∧ Wr ((List.getD x.fst.snd.fst (Int.toNat x_3) (Ty.zero FatT)).fst.snd.fst.snd.snd.snd.snd.fst =
  (List.getD x.fst.snd.fst (Int.toNat x_3) (Ty.zero FatT)).fst.snd.fst.snd.snd.snd.snd.fst) ∧ Wr ((List.getD x.fst.snd.fst (Int.toNat x_3) (Ty.zero FatT)).fst.snd.fst.snd.snd.snd.snd.snd.fst = (List.getD x.fst.snd.fst
  (Int.toNat x_3) (Ty.zero FatT)).fst.snd.fst.snd.snd.snd.snd.snd.fst) ∧ Wr ((List.getD x.fst.snd.fst (Int.toNat x_3) (Ty.zero FatT)).fst.snd.fst.snd.snd.snd.snd.snd.snd.fst = (List.getD x.fst.snd.fst (Int.toNat x_3)
  (Ty.zero FatT)).fst.snd.fst.snd.snd.snd.snd.snd.snd.fst) ∧ Wr ((List.getD x.fst.snd.fst (Int.toNat x_3) (Ty.zero FatT)).fst.snd.fst.snd.snd.snd.snd.snd.snd.snd.fst = (List.getD x.fst.snd.fst (Int.toNat x_3) (Ty.zero
  FatT)).fst.snd.fst.snd.snd.snd.snd.snd.snd.snd.fst) ∧ Wr ((List.getD x.fst.snd.fst (Int.toNat x_3) (Ty.zero FatT)).fst.snd.snd.fst = (List.getD x.fst.snd.fst (Int.toNat x_3) (Ty.zero FatT)).fst.snd.snd.fst) ∧ Wr
  ((List.getD x.fst.snd.fst (Int.toNat x_3) (Ty.zero FatT)).snd.fst = (List.getD x.fst.snd.fst (Int.toNat x_3) (Ty.zero FatT)).snd.fst) ∧ Wr (x_2.snd.fst ≤ x_2.snd.fst) ∧ Wr (x_2.snd.snd = x_2.snd.snd) ∧ Wr (x.fst.fst =
  x.fst.fst) ∧ Wr (x.fst.snd.fst = x.fst.snd.fst) ∧ Wr (x.fst.snd.snd.fst = x.fst.snd.snd.fst) ∧ Wr (x.fst.snd.snd.snd.fst = x.fst.snd.snd.snd.fst)) ∧ ∀ (x_5 : Int), Wr (IdxI (notB dropOk) x.fst.snd.snd.snd.fst x_5) →
  bcase (Decidable.decide (x_5 < (↑(List.length x.fst.snd.snd.snd.fst) : Int))) (Wr ((0 : Int) ≤ x_5) ∧ Wr (x_5 < (↑(List.length x.fst.snd.snd.snd.fst) : Int)) ∧ Wr (Bool.true = Bool.true) ∧ Wr (Bool.true = Bool.true) ∧
  bcase (!dropOk (List.getD x.fst.snd.snd.snd.fst (Int.toNat x_5) (0 : Int))) (bcase (Bool.true && (Bool.true && !Decidable.decide (x_5 ≥ (0 : Int)))) (((0 : Int), ()) = (check x.fst, ())) (((90 : Int), ()) = (check
  x.fst, ()))) (Wr (IdxI (notB dropOk) x.fst.snd.snd.snd.fst (IntKind.wrap IntKind.i64 (x_5 + (1 : Int)))) ∧ Wr (List.length x.fst.snd.snd.snd.fst - Int.toNat (IntKind.wrap IntKind.i64 (x_5 + (1 : Int))) < List.length
  x.fst.snd.snd.snd.fst - Int.toNat x_5) ∧ Wr (IntKind.wrap IntKind.i64 (x_5 + (1 : Int)) = IntKind.wrap IntKind.i64 (x_5 + (1 : Int))) ∧ Wr (x.fst.snd.snd.snd.fst = x.fst.snd.snd.snd.fst) ∧ Wr (x.fst.snd.snd.snd.fst =
  x.fst.snd.snd.snd.fst) ∧ Wr ((↑(List.length x.fst.snd.snd.snd.fst) : Int) = (↑(List.length x.fst.snd.snd.snd.fst) : Int)) ∧ Wr (x_4.snd.fst ≤ x_4.snd.fst) ∧ Wr (x_4.snd.snd = x_4.snd.snd) ∧ Wr ((List.getD x.fst.snd.fst
  (Int.toNat x_3) (Ty.zero FatT)).fst.fst = (List.getD x.fst.snd.fst (Int.toNat x_3) (Ty.zero FatT)).fst.fst) ∧ Wr ((List.getD x.fst.snd.fst (Int.toNat x_3) (Ty.zero FatT)).fst.snd.fst.fst = (List.getD x.fst.snd.fst
  (Int.toNat x_3) (Ty.zero FatT)).fst.snd.fst.fst) ∧ Wr ((List.getD x.fst.snd.fst (Int.toNat x_3) (Ty.zero FatT)).fst.snd.fst.snd.fst = (List.getD x.fst.snd.fst (Int.toNat x_3) (Ty.zero FatT)).fst.snd.fst.snd.fst) ∧ Wr
  ((List.getD x.fst.snd.fst (Int.toNat x_3) (Ty.zero FatT)).fst.snd.fst.snd.snd.fst = (List.getD x.fst.snd.fst (Int.toNat x_3) (Ty.zero FatT)).fst.snd.fst.snd.snd.fst) ∧ Wr ((List.getD x.fst.snd.fst (Int.toNat x_3)
  (Ty.zero FatT)).fst.snd.fst.snd.snd.snd.fst = (List.getD x.fst.snd.fst (Int.toNat x_3) (Ty.zero FatT)).fst.snd.fst.snd.snd.snd.fst) ∧ Wr ((List.getD x.fst.snd.fst (Int.toNat x_3) (Ty.zero
  FatT)).fst.snd.fst.snd.snd.snd.snd.fst = (List.getD x.fst.snd.fst (Int.toNat x_3) (Ty.zero FatT)).fst.snd.fst.snd.snd.snd.snd.fst) ∧ Wr ((List.getD x.fst.snd.fst (Int.toNat x_3) (Ty.zero
  FatT)).fst.snd.fst.snd.snd.snd.snd.snd.fst = (List.getD x.fst.snd.fst (Int.toNat x_3) (Ty.zero FatT)).fst.snd.fst.snd.snd.snd.snd.snd.fst) ∧ Wr ((List.getD x.fst.snd.fst (Int.toNat x_3) (Ty.zero
  FatT)).fst.snd.fst.snd.snd.snd.snd.snd.snd.fst = (List.getD x.fst.snd.fst (Int.toNat x_3) (Ty.zero FatT)).fst.snd.fst.snd.snd.snd.snd.snd.snd.fst) ∧ Wr ((List.getD x.fst.snd.fst (Int.toNat x_3) (Ty.zero
  FatT)).fst.snd.fst.snd.snd.snd.snd.snd.snd.snd.fst = (List.getD x.fst.snd.fst (Int.toNat x_3) (Ty.zero FatT)).fst.snd.fst.snd.snd.snd.snd.snd.snd.snd.fst) ∧ Wr ((List.getD x.fst.snd.fst (Int.toNat x_3) (Ty.zero
  FatT)).fst.snd.snd.fst = (List.getD x.fst.snd.fst (Int.toNat x_3) (Ty.zero FatT)).fst.snd.snd.fst) ∧ Wr ((List.getD x.fst.snd.fst (Int.toNat x_3) (Ty.zero FatT)).snd.fst = (List.getD x.fst.snd.fst (Int.toNat x_3)
  (Ty.zero FatT)).snd.fst) ∧ Wr (x_2.snd.fst ≤ x_2.snd.fst) ∧ Wr (x_2.snd.snd = x_2.snd.snd) ∧ Wr (x.fst.fst = x.fst.fst) ∧ Wr (x.fst.snd.fst = x.fst.snd.fst) ∧ Wr (x.fst.snd.snd.fst = x.fst.snd.snd.fst) ∧ Wr
  (x.fst.snd.snd.snd.fst = x.fst.snd.snd.snd.fst))) (((0 : Int), ()) = (check x.fst, ()))) (((90 : Int), ()) = (check x.fst, ()))) (((90 : Int), ()) = (check x.fst, ())))) (((90 : Int), ()) = (check x.fst, ()))) (Wr (IdxI
  (notB fateOk) x.fst.snd.fst (IntKind.wrap IntKind.i64 (x_3 + (1 : Int)))) ∧ Wr (List.length x.fst.snd.fst - Int.toNat (IntKind.wrap IntKind.i64 (x_3 + (1 : Int))) < List.length x.fst.snd.fst - Int.toNat x_3) ∧ Wr
  (IntKind.wrap IntKind.i64 (x_3 + (1 : Int)) = IntKind.wrap IntKind.i64 (x_3 + (1 : Int))) ∧ Wr (x.fst.snd.fst = x.fst.snd.fst) ∧ Wr (x.fst.snd.fst = x.fst.snd.fst) ∧ Wr ((↑(List.length x.fst.snd.fst) : Int) =
  (↑(List.length x.fst.snd.fst) : Int)) ∧ Wr (x_2.snd.fst ≤ x_2.snd.fst) ∧ Wr (x_2.snd.snd = x_2.snd.snd) ∧ Wr (x.fst.fst = x.fst.fst) ∧ Wr (x.fst.snd.fst = x.fst.snd.fst) ∧ Wr (x.fst.snd.snd.fst = x.fst.snd.snd.fst) ∧ Wr
  (x.fst.snd.snd.snd.fst = x.fst.snd.snd.snd.fst))) ((Wr (UnlI adOf x.fst.snd.fst (0 : Int) (0 : Nat) fun (x : Int × (Int × Int × Int × Int × Int × Int × Int × Int × Unit) × Int × Unit) => noneO Int) ∧ Wr ((0 : Int) = (0
  : Int)) ∧ Wr (x.fst.snd.fst = x.fst.snd.fst) ∧ Wr (x.fst.snd.fst = x.fst.snd.fst) ∧ Wr ((↑(List.length x.fst.snd.fst) : Int) = (↑(List.length x.fst.snd.fst) : Int)) ∧ Wr ((0 : Nat) ≤ (0 : Nat)) ∧ Wr ((fun (x : Int ×
  (Int × Int × Int × Int × Int × Int × Int × Int × Unit) × Int × Unit) => noneO Int) = fun (x : Int × (Int × Int × Int × Int × Int × Int × Int × Int × Unit) × Int × Unit) => noneO Int) ∧ Wr (x_2.snd.fst ≤ x_2.snd.fst) ∧
  Wr (x_2.snd.snd = x_2.snd.snd) ∧ Wr (x.fst.fst = x.fst.fst) ∧ Wr (x.fst.snd.fst = x.fst.snd.fst) ∧ Wr (x.fst.snd.snd.fst = x.fst.snd.snd.fst) ∧ Wr (x.fst.snd.snd.snd.fst = x.fst.snd.snd.snd.fst)) ∧ ∀ (x_4 : Int × Nat ×
  (Int × (Int × Int × Int × Int × Int × Int × Int × Int × Unit) × Int × Unit → Option Int)), Wr (UnlI adOf x.fst.snd.fst x_4.fst x_4.snd.fst x_4.snd.snd) → bcase (Decidable.decide (x_4.fst < (↑(List.length x.fst.snd.fst)
  : Int))) (Wr ((0 : Int) ≤ x_4.fst) ∧ Wr (x_4.fst < (↑(List.length x.fst.snd.fst) : Int)) ∧ Wr (Bool.true = Bool.true) ∧ Wr (x_4.snd.fst < Go.maxLen) ∧ bcase (Decidable.decide (Option.getD (updF AdT I64 x_4.snd.snd
  (List.getD x.fst.snd.fst (Int.toNat x_4.fst) (Ty.zero FatT)).fst (IntKind.wrap IntKind.i64 (Option.getD (x_4.snd.snd (List.getD x.fst.snd.fst (Int.toNat x_4.fst) (Ty.zero FatT)).fst) (0 : Int) + (1 : Int))) (List.getD
  x.fst.snd.fst (Int.toNat x_4.fst) (Ty.zero FatT)).fst) (0 : Int) > (1 : Int))) (((90 : Int), ()) = (check x.fst, ())) (Wr (UnlI adOf x.fst.snd.fst (IntKind.wrap IntKind.i64 (x_4.fst + (1 : Int))) (x_4.snd.fst + (1 :
  Nat)) (updF AdT I64 x_4.snd.snd (List.getD x.fst.snd.fst (Int.toNat x_4.fst) (Ty.zero FatT)).fst (IntKind.wrap IntKind.i64 (Option.getD (x_4.snd.snd (List.getD x.fst.snd.fst (Int.toNat x_4.fst) (Ty.zero FatT)).fst) (0 :
  Int) + (1 : Int))))) ∧ Wr (List.length x.fst.snd.fst - Int.toNat (IntKind.wrap IntKind.i64 (x_4.fst + (1 : Int))) < List.length x.fst.snd.fst - Int.toNat x_4.fst) ∧ Wr (IntKind.wrap IntKind.i64 (x_4.fst + (1 : Int)) =
  IntKind.wrap IntKind.i64 (x_4.fst + (1 : Int))) ∧ Wr (x.fst.snd.fst = x.fst.snd.fst) ∧ Wr (x.fst.snd.fst = x.fst.snd.fst) ∧ Wr ((↑(List.length x.fst.snd.fst) : Int) = (↑(List.length x.fst.snd.fst) : Int)) ∧ Wr
  (x_4.snd.fst + (1 : Nat) ≤ x_4.snd.fst + (1 : Nat)) ∧ Wr (updF AdT I64 x_4.snd.snd (List.getD x.fst.snd.fst (Int.toNat x_4.fst) (Ty.zero FatT)).fst (IntKind.wrap IntKind.i64 (Option.getD (x_4.snd.snd (List.getD
  x.fst.snd.fst (Int.toNat x_4.fst) (Ty.zero FatT)).fst) (0 : Int) + (1 : Int))) = updF AdT I64 x_4.snd.snd (List.getD x.fst.snd.fst (Int.toNat x_4.fst) (Ty.zero FatT)).fst (IntKind.wrap IntKind.i64 (Option.getD
  (x_4.snd.snd (List.getD x.fst.snd.fst (Int.toNat x_4.fst) (Ty.zero FatT)).fst) (0 : Int) + (1 : Int)))) ∧ Wr (x_2.snd.fst ≤ x_2.snd.fst) ∧ Wr (x_2.snd.snd = x_2.snd.snd) ∧ Wr (x.fst.fst = x.fst.fst) ∧ Wr (x.fst.snd.fst
  = x.fst.snd.fst) ∧ Wr (x.fst.snd.snd.fst = x.fst.snd.snd.fst) ∧ Wr (x.fst.snd.snd.snd.fst = x.fst.snd.snd.snd.fst))) (bcase (Bool.true && Bool.true && Decidable.decide (x.fst.snd.snd.fst ≥ (0 : Int)) && Decidable.decide
  (x.fst.snd.snd.fst ≤ (200 : Int))) (bcase (Decidable.decide ((↑(List.length x.fst.snd.snd.snd.fst) : Int) ≥ (0 : Int)) && Decidable.decide ((↑(List.length x.fst.snd.snd.snd.fst) : Int) ≤ (16 : Int))) ((Wr (IdxI (notB
  dropOk) x.fst.snd.snd.snd.fst (0 : Int)) ∧ Wr ((0 : Int) = (0 : Int)) ∧ Wr (x.fst.snd.snd.snd.fst = x.fst.snd.snd.snd.fst) ∧ Wr (x.fst.snd.snd.snd.fst = x.fst.snd.snd.snd.fst) ∧ Wr ((↑(List.length x.fst.snd.snd.snd.fst)
  : Int) = (↑(List.length x.fst.snd.snd.snd.fst) : Int)) ∧ Wr (x_4.snd.fst ≤ x_4.snd.fst) ∧ Wr (x_4.snd.snd = x_4.snd.snd) ∧ Wr (x_2.snd.fst ≤ x_2.snd.fst) ∧ Wr (x_2.snd.snd = x_2.snd.snd) ∧ Wr (x.fst.fst = x.fst.fst) ∧
  Wr (x.fst.snd.fst = x.fst.snd.fst) ∧ Wr (x.fst.snd.snd.fst = x.fst.snd.snd.fst) ∧ Wr (x.fst.snd.snd.snd.fst = x.fst.snd.snd.snd.fst)) ∧ ∀ (x_5 : Int), Wr (IdxI (notB dropOk) x.fst.snd.snd.snd.fst x_5) → bcase
  (Decidable.decide (x_5 < (↑(List.length x.fst.snd.snd.snd.fst) : Int))) (Wr ((0 : Int) ≤ x_5) ∧ Wr (x_5 < (↑(List.length x.fst.snd.snd.snd.fst) : Int)) ∧ Wr (Bool.true = Bool.true) ∧ Wr (Bool.true = Bool.true) ∧ bcase
  (!dropOk (List.getD x.fst.snd.snd.snd.fst (Int.toNat x_5) (0 : Int))) (bcase (Bool.true && (Bool.true && !Decidable.decide (x_5 ≥ (0 : Int)))) (((0 : Int), ()) = (check x.fst, ())) (((90 : Int), ()) = (check x.fst,
  ()))) (Wr (IdxI (notB dropOk) x.fst.snd.snd.snd.fst (IntKind.wrap IntKind.i64 (x_5 + (1 : Int)))) ∧ Wr (List.length x.fst.snd.snd.snd.fst - Int.toNat (IntKind.wrap IntKind.i64 (x_5 + (1 : Int))) < List.length
  x.fst.snd.snd.snd.fst - Int.toNat x_5) ∧ Wr (IntKind.wrap IntKind.i64 (x_5 + (1 : Int)) = IntKind.wrap IntKind.i64 (x_5 + (1 : Int))) ∧ Wr (x.fst.snd.snd.snd.fst = x.fst.snd.snd.snd.fst) ∧ Wr (x.fst.snd.snd.snd.fst =
  x.fst.snd.snd.snd.fst) ∧ Wr ((↑(List.length x.fst.snd.snd.snd.fst) : Int) = (↑(List.length x.fst.snd.snd.snd.fst) : Int)) ∧ Wr (x_4.snd.fst ≤ x_4.snd.fst) ∧ Wr (x_4.snd.snd = x_4.snd.snd) ∧ Wr (x_2.snd.fst ≤
  x_2.snd.fst) ∧ Wr (x_2.snd.snd = x_2.snd.snd) ∧ Wr (x.fst.fst = x.fst.fst) ∧ Wr (x.fst.snd.fst = x.fst.snd.fst) ∧ Wr (x.fst.snd.snd.fst = x.fst.snd.snd.fst) ∧ Wr (x.fst.snd.snd.snd.fst = x.fst.snd.snd.snd.fst))) (((0 :
  Int), ()) = (check x.fst, ()))) (((90 : Int), ()) = (check x.fst, ()))) (((90 : Int), ()) = (check x.fst, ()))))) (((90 : Int), ()) = (check x.fst, ()))))) (((90 : Int), ()) = (check x.fst, ()))) := by kernel_rfl
theorem v31_eq : vcFn g31 300 Tryd.f31 cFate = ( ∀ (x : (List (ByteArray × List (List (Int × (Int × Int × Int × Int × Int × Int × Int × Int × Unit) × Int × Unit)) × Unit) × List ((Int × (Int × Int × Int × Int × Int × Int × Int × Int × Unit) × Int × Unit) × List Int ×
  Unit) × Int × List Int × Unit) × (Int × (Int × Int × Int × Int × Int × Int × Int × Int × Unit) × Int × Unit) × Int × Unit), Wr (okP x.fst = Bool.true) → (Wr (IdxI (adIs x.snd.fst) x.fst.snd.fst (0 : Int)) ∧ Wr ((0 :
  Int) = (0 : Int)) ∧ Wr (x.fst.snd.fst = x.fst.snd.fst) ∧ Wr (x.fst.snd.fst = x.fst.snd.fst) ∧ Wr ((↑(List.length x.fst.snd.fst) : Int) = (↑(List.length x.fst.snd.fst) : Int)) ∧ Wr (x.snd.fst.fst = x.snd.fst.fst) ∧ Wr
  (x.snd.fst.snd.fst.fst = x.snd.fst.snd.fst.fst) ∧ Wr (x.snd.fst.snd.fst.snd.fst = x.snd.fst.snd.fst.snd.fst) ∧ Wr (x.snd.fst.snd.fst.snd.snd.fst = x.snd.fst.snd.fst.snd.snd.fst) ∧ Wr (x.snd.fst.snd.fst.snd.snd.snd.fst =
  x.snd.fst.snd.fst.snd.snd.snd.fst) ∧ Wr (x.snd.fst.snd.fst.snd.snd.snd.snd.fst = x.snd.fst.snd.fst.snd.snd.snd.snd.fst) ∧ Wr (x.snd.fst.snd.fst.snd.snd.snd.snd.snd.fst = x.snd.fst.snd.fst.snd.snd.snd.snd.snd.fst) ∧ Wr
  (x.snd.fst.snd.fst.snd.snd.snd.snd.snd.snd.fst = x.snd.fst.snd.fst.snd.snd.snd.snd.snd.snd.fst) ∧ Wr (x.snd.fst.snd.fst.snd.snd.snd.snd.snd.snd.snd.fst = x.snd.fst.snd.fst.snd.snd.snd.snd.snd.snd.snd.fst) ∧ Wr
  (x.snd.fst.snd.snd.fst = x.snd.fst.snd.snd.fst) ∧ Wr (x.fst.fst = x.fst.fst) ∧ Wr (x.fst.snd.fst = x.fst.snd.fst) ∧ Wr (x.fst.snd.snd.fst = x.fst.snd.snd.fst) ∧ Wr (x.fst.snd.snd.snd.fst = x.fst.snd.snd.snd.fst) ∧ Wr
  (x.snd.fst.fst = x.snd.fst.fst) ∧ Wr (x.snd.fst.snd.fst.fst = x.snd.fst.snd.fst.fst) ∧ Wr (x.snd.fst.snd.fst.snd.fst = x.snd.fst.snd.fst.snd.fst) ∧ Wr (x.snd.fst.snd.fst.snd.snd.fst = x.snd.fst.snd.fst.snd.snd.fst) ∧ Wr
  (x.snd.fst.snd.fst.snd.snd.snd.fst = x.snd.fst.snd.fst.snd.snd.snd.fst) ∧ Wr (x.snd.fst.snd.fst.snd.snd.snd.snd.fst = x.snd.fst.snd.fst.snd.snd.snd.snd.fst) ∧ Wr (x.snd.fst.snd.fst.snd.snd.snd.snd.snd.fst =
  x.snd.fst.snd.fst.snd.snd.snd.snd.snd.fst) ∧ Wr (x.snd.fst.snd.fst.snd.snd.snd.snd.snd.snd.fst = x.snd.fst.snd.fst.snd.snd.snd.snd.snd.snd.fst) ∧ Wr (x.snd.fst.snd.fst.snd.snd.snd.snd.snd.snd.snd.fst =
  x.snd.fst.snd.fst.snd.snd.snd.snd.snd.snd.snd.fst) ∧ Wr (x.snd.fst.snd.snd.fst = x.snd.fst.snd.snd.fst) ∧ Wr (x.fst.fst = x.fst.fst) ∧ Wr (x.fst.snd.fst = x.fst.snd.fst) ∧ Wr (x.fst.snd.snd.fst = x.fst.snd.snd.fst) ∧ Wr
  (x.fst.snd.snd.snd.fst = x.fst.snd.snd.snd.fst)) ∧ ∀ (x_1 : Int), Wr (IdxI (adIs x.snd.fst) x.fst.snd.fst x_1) → bcase (Decidable.decide (x_1 < (↑(List.length x.fst.snd.fst) : Int))) (Wr ((0 : Int) ≤ x_1) ∧ Wr (x_1 <
  (↑(List.length x.fst.snd.fst) : Int)) ∧ Wr (Bool.true = Bool.true) ∧ bcase (Ty.eqb (Ty.cons (Ty.int IntKind.i8) (Ty.cons (Ty.arr (8 : Nat) (Ty.int IntKind.u16)) (Ty.cons (Ty.int IntKind.i64) Ty.unit))) (List.getD
  x.fst.snd.fst (Int.toNat x_1) (Ty.zero FatT)).fst x.snd.fst) (bcase (Decidable.decide (x_1 < (0 : Int))) (((1 : Int), ()) = (fateF x.fst x.snd.fst x.snd.snd.fst, ())) (Wr ((0 : Int) ≤ x_1) ∧ Wr (x_1 < (↑(List.length
  x.fst.snd.fst) : Int)) ∧ Wr (Bool.true = Bool.true) ∧ Wr (Bool.true = Bool.true) ∧ bcase (Decidable.decide ((↑(List.length (List.getD x.fst.snd.fst (Int.toNat x_1) (Ty.zero FatT)).snd.fst) : Int) = (0 : Int))) (((1 :
  Int), ()) = (fateF x.fst x.snd.fst x.snd.snd.fst, ())) (Wr ((0 : Int) ≤ Min.min (Max.max x.snd.snd.fst (0 : Int)) (IntKind.wrap IntKind.i64 ((↑(List.length (List.getD x.fst.snd.fst (Int.toNat x_1) (Ty.zero
  FatT)).snd.fst) : Int) - (1 : Int)))) ∧ Wr (Min.min (Max.max x.snd.snd.fst (0 : Int)) (IntKind.wrap IntKind.i64 ((↑(List.length (List.getD x.fst.snd.fst (Int.toNat x_1) (Ty.zero FatT)).snd.fst) : Int) - (1 : Int))) <
  (↑(List.length (List.getD x.fst.snd.fst (Int.toNat x_1) (Ty.zero FatT)).snd.fst) : Int)) ∧ Wr (Bool.true = Bool.true) ∧ (List.getD (List.getD x.fst.snd.fst (Int.toNat x_1) (Ty.zero FatT)).snd.fst (Int.toNat (Min.min
  (Max.max x.snd.snd.fst (0 : Int)) (IntKind.wrap IntKind.i64 ((↑(List.length (List.getD x.fst.snd.fst (Int.toNat x_1) (Ty.zero FatT)).snd.fst) : Int) - (1 : Int))))) (0 : Int), ()) = (fateF x.fst x.snd.fst x.snd.snd.fst,
  ())))) (Wr (IdxI (adIs x.snd.fst) x.fst.snd.fst (IntKind.wrap IntKind.i64 (x_1 + (1 : Int)))) ∧ Wr (List.length x.fst.snd.fst - Int.toNat (IntKind.wrap IntKind.i64 (x_1 + (1 : Int))) < List.length x.fst.snd.fst -
  Int.toNat x_1) ∧ Wr (IntKind.wrap IntKind.i64 (x_1 + (1 : Int)) = IntKind.wrap IntKind.i64 (x_1 + (1 : Int))) ∧ Wr (x.fst.snd.fst = x.fst.snd.fst) ∧ Wr (x.fst.snd.fst = x.fst.snd.fst) ∧ Wr ((↑(List.length x.fst.snd.fst)
  : Int) = (↑(List.length x.fst.snd.fst) : Int)) ∧ Wr (x.snd.fst.fst = x.snd.fst.fst) ∧ Wr (x.snd.fst.snd.fst.fst = x.snd.fst.snd.fst.fst) ∧ Wr (x.snd.fst.snd.fst.snd.fst = x.snd.fst.snd.fst.snd.fst) ∧ Wr
  (x.snd.fst.snd.fst.snd.snd.fst = x.snd.fst.snd.fst.snd.snd.fst) ∧ Wr (x.snd.fst.snd.fst.snd.snd.snd.fst = x.snd.fst.snd.fst.snd.snd.snd.fst) ∧ Wr (x.snd.fst.snd.fst.snd.snd.snd.snd.fst =
  x.snd.fst.snd.fst.snd.snd.snd.snd.fst) ∧ Wr (x.snd.fst.snd.fst.snd.snd.snd.snd.snd.fst = x.snd.fst.snd.fst.snd.snd.snd.snd.snd.fst) ∧ Wr (x.snd.fst.snd.fst.snd.snd.snd.snd.snd.snd.fst =
  x.snd.fst.snd.fst.snd.snd.snd.snd.snd.snd.fst) ∧ Wr (x.snd.fst.snd.fst.snd.snd.snd.snd.snd.snd.snd.fst = x.snd.fst.snd.fst.snd.snd.snd.snd.snd.snd.snd.fst) ∧ Wr (x.snd.fst.snd.snd.fst = x.snd.fst.snd.snd.fst) ∧ Wr
  (x.fst.fst = x.fst.fst) ∧ Wr (x.fst.snd.fst = x.fst.snd.fst) ∧ Wr (x.fst.snd.snd.fst = x.fst.snd.snd.fst) ∧ Wr (x.fst.snd.snd.snd.fst = x.fst.snd.snd.snd.fst) ∧ Wr (x.snd.fst.fst = x.snd.fst.fst) ∧ Wr
  (x.snd.fst.snd.fst.fst = x.snd.fst.snd.fst.fst) ∧ Wr (x.snd.fst.snd.fst.snd.fst = x.snd.fst.snd.fst.snd.fst) ∧ Wr (x.snd.fst.snd.fst.snd.snd.fst = x.snd.fst.snd.fst.snd.snd.fst) ∧ Wr (x.snd.fst.snd.fst.snd.snd.snd.fst =
  x.snd.fst.snd.fst.snd.snd.snd.fst) ∧ Wr (x.snd.fst.snd.fst.snd.snd.snd.snd.fst = x.snd.fst.snd.fst.snd.snd.snd.snd.fst) ∧ Wr (x.snd.fst.snd.fst.snd.snd.snd.snd.snd.fst = x.snd.fst.snd.fst.snd.snd.snd.snd.snd.fst) ∧ Wr
  (x.snd.fst.snd.fst.snd.snd.snd.snd.snd.snd.fst = x.snd.fst.snd.fst.snd.snd.snd.snd.snd.snd.fst) ∧ Wr (x.snd.fst.snd.fst.snd.snd.snd.snd.snd.snd.snd.fst = x.snd.fst.snd.fst.snd.snd.snd.snd.snd.snd.snd.fst) ∧ Wr
  (x.snd.fst.snd.snd.fst = x.snd.fst.snd.snd.fst) ∧ Wr (x.fst.fst = x.fst.fst) ∧ Wr (x.fst.snd.fst = x.fst.snd.fst) ∧ Wr (x.fst.snd.snd.fst = x.fst.snd.snd.fst) ∧ Wr (x.fst.snd.snd.snd.fst = x.fst.snd.snd.snd.fst))) (((1
  : Int), ()) = (fateF x.fst x.snd.fst x.snd.snd.fst, ()))) := by kernel_rfl
end Go.Proofs.YtfhlceooobabcaaDoor.Wd
set_option linter.all false
namespace Go.Proofs.YtfhlceooobabcaaDoor.Wd
open Go Go.Eng Go.Lb Go.Ad
set_option maxRecDepth 100000
set_option maxHeartbeats 2000000

theorem IdxI.zero {α : Type} (p : α → Bool) (l : List α) : IdxI p l 0 := ⟨by omega, by omega, rfl⟩
theorem IdxI.on {α : Type} {p : α → Bool} {l : List α} {i : Int} (z : α) (hl : l.length ≤ 5000000000) (hi : IdxI p l i) (h : i < l.length) (hq : p (l.getD i.toNat z) = false) :
    IdxI p l (IntKind.wrap .i64 (i + 1)) ∧ l.length - (IntKind.wrap .i64 (i + 1)).toNat < l.length - i.toNat := by
  have h0 := hi.i0
  rw [w64 (by omega) (by omega)]
  refine ⟨⟨by omega, by omega, ?_⟩, by omega⟩
  rw [take_succ l i z h0 h, List.any_append, hi.a, List.any_cons, List.any_nil, hq]
  rfl
theorem IdxI.hit {α : Type} {p : α → Bool} {l : List α} {i : Int} {z : α} (hi : IdxI p l i) (h : i < l.length) (hq : p (l.getD i.toNat z) = true) : l.any p = true :=
  List.any_eq_true.2 ⟨_, getD_memA (z := z) hi.i0 h, hq⟩
theorem IdxI.fin {α : Type} {p : α → Bool} {l : List α} {i : Int} (hi : IdxI p l i) (h : ¬ i < l.length) : l.any p = false := by
  have := hi.a
  rwa [take_all hi.i1 h] at this
theorem any_notB {α : Type} (p : α → Bool) (l : List α) : l.any (notB p) = !l.all p := by
  induction l with
  | nil => rfl
  | cons a l ih => simp only [List.any_cons, List.all_cons, ih, notB, Bool.not_and]
/-- found, one that is not so -/
theorem IdxI.bad {α : Type} {p : α → Bool} {l : List α} {i : Int} {z : α} (hi : IdxI (notB p) l i) (h : i < l.length) (hq : p (l.getD i.toNat z) = false) : l.all p = false := by
  have := hi.hit (z := z) h (by rw [notB, hq]; rfl)
  rw [any_notB] at this
  simpa using this
theorem IdxI.good {α : Type} {p : α → Bool} {l : List α} {i : Int} (hi : IdxI (notB p) l i) (h : ¬ i < l.length) : l.all p = true := by
  have := hi.fin h
  rw [any_notB] at this
  simpa using this
theorem IdxI.onN {α : Type} {p : α → Bool} {l : List α} {i : Int} (z : α) (hl : l.length ≤ 5000000000) (hi : IdxI (notB p) l i) (h : i < l.length) (hq : p (l.getD i.toNat z) = true) :
    IdxI (notB p) l (IntKind.wrap .i64 (i + 1)) ∧ l.length - (IntKind.wrap .i64 (i + 1)).toNat < l.length - i.toNat := hi.on z hl h (by rw [notB, hq]; rfl)

/-! no two the same -/
theorem UnlI.zero {α κ : Type} [DecidableEq κ] (k : α → κ) (l : List α) : UnlI k l 0 0 (fun _ => none) := ⟨by omega, by omega, rfl, fun _ => rfl, List.nodup_nil⟩
theorem UnlI.get {α κ : Type} [DecidableEq κ] {k : α → κ} {l : List α} {i : Int} {n : Nat} {f : κ → Option Int} (h : UnlI k l i n f) (x : κ) : (f x).getD 0 = bif decide (x ∈ (l.take i.toNat).map k) then 1 else 0 := by
  rw [h.f x]
  cases decide (x ∈ (l.take i.toNat).map k) <;> rfl
/-- one that was there -/
theorem UnlI.twice {α κ : Type} [DecidableEq κ] {k : α → κ} {l : List α} {i : Int} {n : Nat} {f : κ → Option Int} {z : α} (h : UnlI k l i n f) (hi : i < l.length) (hk : k (l.getD i.toNat z) ∈ (l.take i.toNat).map k) : ¬ (l.map k).Nodup := by
  intro hn
  have e : (l.take (i + 1).toNat).map k = (l.take i.toNat).map k ++ [k (l.getD i.toNat z)] := by rw [take_succ l i z h.i0 hi]; simp
  have hs : ((l.take (i + 1).toNat).map k).Nodup := by
    exact ((List.take_sublist _ _).map k).nodup hn
  rw [e] at hs
  exact (List.nodup_append.1 hs).2.2 _ hk _ (List.mem_singleton.2 rfl) rfl
theorem UnlI.on {α κ : Type} [DecidableEq κ] {k : α → κ} {l : List α} {i : Int} {n : Nat} {f f' : κ → Option Int} {z : α} (h : UnlI k l i n f) (hl : l.length ≤ 5000000000) (hi : i < l.length) (hk : ¬ k (l.getD i.toNat z) ∈ (l.take i.toNat).map k)
    (hf : ∀ x, f' x = if x = k (l.getD i.toNat z) then some 1 else f x) : UnlI k l (IntKind.wrap .i64 (i + 1)) (n + 1) f' ∧ l.length - (IntKind.wrap .i64 (i + 1)).toNat < l.length - i.toNat := by
  have h0 := h.i0
  have hn := h.n
  rw [w64 (by omega) (by omega)]
  have e : (l.take (i + 1).toNat).map k = (l.take i.toNat).map k ++ [k (l.getD i.toNat z)] := by rw [take_succ l i z h0 hi]; simp
  refine ⟨⟨by omega, by omega, by omega, fun x => ?_, ?_⟩, by omega⟩
  · rw [hf x, e]
    by_cases hx : x = k (l.getD i.toNat z)
    · rw [if_pos hx]; simp [hx]
    · rw [if_neg hx, h.f x]; congr 1; rw [decide_eq_decide]; simp only [List.mem_append, List.mem_singleton]; exact ⟨.inl, fun o => o.resolve_right hx⟩
  · rw [e]
    refine List.nodup_append.2 ⟨h.d, by simp, fun a ha b hb => ?_⟩
    simp only [List.mem_singleton] at hb
    subst hb
    exact fun e => hk (e ▸ ha)
theorem UnlI.fin {α κ : Type} [DecidableEq κ] {k : α → κ} {l : List α} {i : Int} {n : Nat} {f : κ → Option Int} (h : UnlI k l i n f) (hi : ¬ i < l.length) : (l.map k).Nodup := by
  have := h.d
  rwa [take_all h.i1 hi] at this
theorem UnlI.room {α κ : Type} [DecidableEq κ] {k : α → κ} {l : List α} {i : Int} {n : Nat} {f : κ → Option Int} (h : UnlI k l i n f) (hi : i < l.length) (hl : l.length ≤ 5000000000) : n < maxLen := by
  have := h.n; have := h.i0; unfold maxLen; omega
/-- what counting up comes to -/
theorem updF_same {kt : Ty} (hk : keyable kt = true) (f : kt.El → Option Int) (x : kt.El) (y : Int) : ((updF kt I64 f x y) x).getD 0 = y := by
  unfold updF
  rw [(eqb_iff kt hk x x).2 rfl]
  rfl
theorem updF_if {kt : Ty} [DecidableEq kt.El] (hk : keyable kt = true) (f : kt.El → Option Int) (x : kt.El) (y : Int) (u : kt.El) : (updF kt I64 f x y) u = if u = x then some y else f u := by
  unfold updF
  by_cases h : u = x
  · rw [(eqb_iff kt hk u x).2 h, if_pos h]; rfl
  · rw [if_neg h]
    have : kt.eqb u x = false := by
      cases e : kt.eqb u x with
      | false => rfl
      | true => exact absurd ((eqb_iff kt hk u x).1 e) h
    rw [this]; rfl
/-- a round of 'unlike' -/
theorem UnlI.step {α : Type} {kt : Ty} [DecidableEq kt.El] (hk : keyable kt = true) {k : α → kt.El} {l : List α} {i : Int} {n : Nat} {f : kt.El → Option Int} {z : α} (h : UnlI k l i n f) (hl : l.length ≤ 5000000000) (hi : i < l.length) {y : kt.El} (hy : y = k (l.getD i.toNat z)) :
    (((updF kt I64 f y (IntKind.wrap .i64 ((f y).getD 0 + 1))) y).getD 0 > 1 → ¬ (l.map k).Nodup) ∧ (¬ ((updF kt I64 f y (IntKind.wrap .i64 ((f y).getD 0 + 1))) y).getD 0 > 1 →
      UnlI k l (IntKind.wrap .i64 (i + 1)) (n + 1) (updF kt I64 f y (IntKind.wrap .i64 ((f y).getD 0 + 1))) ∧ l.length - (IntKind.wrap .i64 (i + 1)).toNat < l.length - i.toNat) := by
  have hg := h.get y
  have h1 : IntKind.wrap .i64 (1 + 1) = 2 := by decide
  have h2 : IntKind.wrap .i64 (0 + 1) = 1 := by decide
  rw [updF_same hk, hg]
  by_cases hm : y ∈ (l.take i.toNat).map k
  · rw [decide_eq_true hm]
    simp only [cond_true, h1]
    exact ⟨fun _ => h.twice (z := z) hi (hy ▸ hm), fun hn => absurd (show (2 : Int) > 1 by decide) hn⟩
  · rw [decide_eq_false hm]
    simp only [cond_false, h2]
    refine ⟨fun hn => absurd hn (show ¬ (1 : Int) > 1 by decide), fun _ => h.on (z := z) hl hi (hy ▸ hm) fun x => ?_⟩
    rw [updF_if hk, hy]

instance : DecidableEq AdT.El := dA
theorem kAd : keyable AdT = true := by decide
theorem pr {b c : Bool} (h : b = c) : (b, ()) = (c, ()) := by rw [h]
theorem v67 : Vc g67 300 Tryd.f67 cRowOk := by
  constructor
  rw [v67_eq]
  simp only [Wr_iff, bcase_iff, true_and, and_true, decide_eq_true_eq, decide_eq_false_iff_not, Bool.and_eq_true, Bool.and_eq_false_iff, Bool.or_eq_true, Bool.or_eq_false_iff, Bool.not_eq_true', Bool.not_eq_false', Option.map_some, Option.getD_some, Option.isSome_some, Option.isSome_map, imp_self, nilL, noneO]
  intro x _
  generalize x.fst = l
  refine ⟨fun h => (lenA_iff l).2 (by omega), fun h => ⟨⟨UnlI.zero _ _, Nat.le_refl _⟩, fun ⟨i, n, f⟩ hu => ⟨fun hi => ?_, fun hi => ?_⟩⟩, fun h => ?_⟩
  · have hl : List.length l ≤ 5000000000 := by have := h.1; omega
    obtain ⟨h1, h2⟩ := UnlI.step (α := Ad) (kt := AdT) kAd hu hl hi (z := Ty.zero AdT) rfl
    refine ⟨hu.i0, hi, hu.room hi hl, fun hg => ?_, fun hg => ?_⟩
    · have h3 : ¬ List.Nodup (α := Ad) l := fun hn => h1 hg ((congrArg List.Nodup (List.map_id' (α := Ad) l)).mpr hn)
      refine pr ?_
      simp [rowOk, h3]
    · exact ⟨(h2 hg).1, (h2 hg).2, Nat.le_refl _⟩
  · have h3 : List.Nodup (α := Ad) l := (congrArg List.Nodup (List.map_id' (α := Ad) l)).mp (hu.fin hi)
    refine pr ?_
    simp only [rowOk, decide_eq_true h3, h.2, Bool.and_true, Bool.true_and]
    exact (decide_eq_true (by have := h.1; omega)).symm
  · refine pr ?_
    simp only [rowOk]
    rcases h with h | h
    · simp [show ¬ l.length ≤ 16 by omega]
    · simp [h]
theorem zone_iff (z : Zn) : zoneOk z = true ↔ (fold2 z.1 = 0 ∧ fold1 z.1 = z.1) ∧ (1 ≤ z.2.1.length ∧ z.2.1.length ≤ 32) ∧ z.2.1.all rowOk = true := by
  simp only [zoneOk, Bool.and_eq_true, decide_eq_true_eq, fold2_iff]
  constructor
  · rintro ⟨h, h1, h2, h3⟩; exact ⟨h, ⟨h1, h2⟩, h3⟩
  · rintro ⟨h, ⟨h1, h2⟩, h3⟩; exact ⟨h, h1, h2, h3⟩
theorem no_of {b : Bool} {p : Prop} (h : b = true ↔ p) (hp : ¬ p) : b = false := by
  cases hb : b with
  | false => rfl
  | true => exact absurd (h.1 hb) hp
theorem v39 : Vc g39 300 Tryd.f39 cZone := by
  constructor
  rw [v39_eq]
  simp only [Wr_iff, bcase_iff, true_and, and_true, decide_eq_true_eq, decide_eq_false_iff_not, Bool.and_eq_true, Bool.and_eq_false_iff, Bool.or_eq_true, Bool.or_eq_false_iff, Bool.not_eq_true', Bool.not_eq_false', Option.map_some, Option.getD_some, Option.isSome_some, Option.isSome_map, imp_self, nilL, noneO]
  intro x _
  generalize x.fst = z
  refine ⟨fun h => ⟨fun hl => ⟨IdxI.zero _ _, fun i hu => ⟨fun hi => ⟨hu.i0, hi, fun hg => ?_, fun hg => ?_⟩, fun hi => ?_⟩⟩, fun hl => ?_⟩, fun h => ?_⟩
  · refine pr ?_
    rw [no_of (zone_iff z) (fun hz => by rw [hu.bad hi hg] at hz; cases hz.2.2)]
    simp only [Bool.true_and, Bool.not_eq_false', decide_eq_true_eq]
    exact hu.i0
  · exact hu.onN _ (by have := hl.2; omega) hi hg
  · refine pr ?_
    rw [(zone_iff z).2 ⟨h, by have := hl.1; have := hl.2; omega, hu.good hi⟩]
    rfl
  · refine pr ?_
    rw [no_of (zone_iff z) (fun hz => by have := hz.2.1; omega)]
    rfl
  · refine pr ?_
    rw [no_of (zone_iff z) (fun hz => by
      rcases h with h | h
      · exact h hz.1.1
      · exact h hz.1.2)]
    rfl
theorem fate_iff (f : Ft) : fateOk f = true ↔ may1 f.1 = true ∧ (1 ≤ f.2.1.length ∧ f.2.1.length ≤ 32) ∧ f.2.1.all fateIn = true := by
  simp only [fateOk, Bool.and_eq_true, decide_eq_true_eq]
  constructor
  · rintro ⟨h, h1, h2, h3⟩; exact ⟨h, ⟨h1, h2⟩, h3⟩
  · rintro ⟨h, ⟨h1, h2⟩, h3⟩; exact ⟨h, h1, h2, h3⟩
theorem may_one (a : Ad) : mayA [a] = may1 a := by simp [mayA]
theorem v41 : Vc g41 300 Tryd.f41 cFat := by
  constructor
  rw [v41_eq]
  simp only [Wr_iff, bcase_iff, true_and, and_true, decide_eq_true_eq, decide_eq_false_iff_not, Bool.and_eq_true, Bool.and_eq_false_iff, Bool.or_eq_true, Bool.or_eq_false_iff, Bool.not_eq_true', Bool.not_eq_false', Option.map_some, Option.getD_some, Option.isSome_some, Option.isSome_map, imp_self, nilL, noneO]
  intro x _
  generalize x.fst = z
  refine ⟨rfl, fun h => ⟨fun hl => ⟨IdxI.zero _ _, fun i hu => ⟨fun hi => ⟨hu.i0, hi, fun hg => ?_, fun hg => ?_⟩, fun hi => ?_⟩⟩, fun hl => ?_⟩, fun h => ?_⟩
  · refine pr ?_
    have hg' : fateIn (z.2.1.getD i.toNat 0) = false := by
      simp only [fateIn, Bool.and_eq_false_iff, decide_eq_false_iff_not]
      exact hg
    rw [no_of (fate_iff z) (fun hz => by rw [hu.bad hi hg'] at hz; cases hz.2.2)]
    simp only [Bool.true_and, Bool.not_eq_false', decide_eq_true_eq]
    exact hu.i0
  · have hg' : fateIn (z.2.1.getD i.toNat 0) = true := by
      simp only [fateIn, Bool.and_eq_true, decide_eq_true_eq]
      exact hg
    exact hu.onN 0 (by have := hl.2; omega) hi hg'
  · refine pr ?_
    rw [(fate_iff z).2 ⟨by rw [← may_one]; exact h, by have := hl.1; have := hl.2; omega, hu.good hi⟩]
    rfl
  · refine pr ?_
    rw [no_of (fate_iff z) (fun hz => by have := hz.2.1; omega)]
    rfl
  · refine pr ?_
    rw [no_of (fate_iff z) (fun hz => by have h2 := hz.1; rw [← may_one] at h2; exact absurd (h.symm.trans h2) (by decide))]
    rfl
theorem v42 : Vc g42 300 Tryd.f42 cDropOk := by
  constructor
  rw [v42_eq]
  intro x _
  exact pr rfl
end Go.Proofs.YtfhlceooobabcaaDoor.Wd
set_option linter.all false
namespace Go.Proofs.YtfhlceooobabcaaDoor.Wd
open Go Go.Eng Go.Lb Go.Ad
set_option maxRecDepth 100000
set_option maxHeartbeats 4000000

theorem split_at {α : Type} {l : List α} {i : Int} (z : α) (h0 : 0 ≤ i) (h : i < l.length) : l = l.take i.toNat ++ l.getD i.toNat z :: l.drop (i.toNat + 1) := by
  have h' : i.toNat < l.length := by omega
  rw [List.getD_eq_getElem?_getD, List.getElem?_eq_getElem h', Option.getD_some, ← List.drop_eq_getElem_cons h', List.take_append_drop]
theorem IdxI.find {α : Type} {p : α → Bool} {l : List α} {i : Int} (z : α) (hi : IdxI p l i) (h : i < l.length) (hq : p (l.getD i.toNat z) = true) : l.find? p = some (l.getD i.toNat z) := by
  have hs := split_at z hi.i0 h
  have hn : (l.take i.toNat).find? p = none := by
    rw [List.find?_eq_none]
    intro x hx hp
    have := hi.a
    rw [List.any_eq_false] at this
    exact this x hx hp
  generalize l.getD i.toNat z = y at hs hq ⊢
  rw [hs, List.find?_append, hn, List.find?_cons, hq]
  rfl
theorem IdxI.none {α : Type} {p : α → Bool} {l : List α} {i : Int} (hi : IdxI p l i) (h : ¬ i < l.length) : l.find? p = none := by
  rw [List.find?_eq_none]
  intro x hx hp
  have := hi.fin h
  rw [List.any_eq_false] at this
  exact this x hx hp
theorem okP_iff (p : Pl) : okP p = true ↔ p.2.1.length ≤ 1000000 ∧ ∀ f ∈ p.2.1, f.2.1.length ≤ 1000000 := by
  simp [okP, okF]
theorem minI (n : Int) {m : Int} (h : 1 ≤ m) : 0 ≤ min (max n 0) (m - 1) ∧ min (max n 0) (m - 1) < m := by omega
theorem fateRow_some {p : Pl} {a : Ad} {f : Ft} (h : p.2.1.find? (adIs a) = some f) : fateRow p a = f.2.1 := by unfold fateRow; rw [h]
theorem fateRow_none {p : Pl} {a : Ad} (h : p.2.1.find? (adIs a) = none) : fateRow p a = [] := by unfold fateRow; rw [h]
theorem fate_got {p : Pl} {a : Ad} {n : Int} {L : List Int} (hr : fateRow p a = L) (hm : L.length ≤ 1000000) (h : ¬ ((L.length : Int) = 0)) :
    0 ≤ min (max n 0) (IntKind.wrap .i64 ((L.length : Int) - 1)) ∧ min (max n 0) (IntKind.wrap .i64 ((L.length : Int) - 1)) < L.length ∧ (L.getD (min (max n 0) (IntKind.wrap .i64 ((L.length : Int) - 1))).toNat 0, ()) = (fateF p a n, ()) := by
  have hL : (1 : Int) ≤ L.length := by omega
  rw [w64 (by omega) (by omega)]
  obtain ⟨k1, k2⟩ := minI n hL
  refine ⟨k1, k2, ?_⟩
  rw [fateF, hr, fateAt, decide_eq_false (by omega)]
  rfl
theorem v31 : Vc g31 300 Tryd.f31 cFate := by
  constructor
  rw [v31_eq]
  simp only [Wr_iff, bcase_iff, true_and, and_true, decide_eq_true_eq, decide_eq_false_iff_not, Bool.and_eq_true, Bool.and_eq_false_iff, Bool.or_eq_true, Bool.or_eq_false_iff, Bool.not_eq_true', Bool.not_eq_false', Option.map_some, Option.getD_some, Option.isSome_some, Option.isSome_map, imp_self, nilL, noneO]
  intro x
  obtain ⟨p, a, n, ⟨⟩⟩ := x
  dsimp only
  intro hp
  obtain ⟨hp1, hp2⟩ := (okP_iff p).1 hp
  have nf : fateRow p a = [] → ((1 : Int), ()) = (fateF p a n, ()) := fun h => by rw [fateF, h]; rfl
  have hlen : p.2.1.length ≤ 5000000000 := by omega
  refine ⟨?_, fun i hu => ⟨fun hi => ?_, fun hi => ?_⟩⟩
  · exact IdxI.zero _ _
  · refine ⟨hu.i0, hi, fun hg => ⟨fun h => absurd h (by have := hu.i0; omega), fun _ => ?_⟩, fun hg => ?_⟩
    · have hg' : adIs a (p.2.1.getD i.toNat FatT.zero) = true := by
        simp only [adIs, decide_eq_true_eq]
        exact (eqA _ _).1 hg
      have hf := hu.find FatT.zero hi hg'
      have hm := hp2 _ (getD_memA (z := FatT.zero) hu.i0 hi)
      refine ⟨hu.i0, hi, fun h => nf ((fateRow_some hf).trans (List.length_eq_zero_iff.1 (Int.ofNat_eq_zero.1 h))), fun h => fate_got (fateRow_some hf) hm h⟩
    · have hg' : adIs a (p.2.1.getD i.toNat FatT.zero) = false := by
        simp only [adIs, decide_eq_false_iff_not]
        exact (eqA_f _ _).1 hg
      obtain ⟨k1, k2⟩ := hu.on FatT.zero hlen hi hg'
      exact ⟨k1, k2⟩
  · refine nf ?_
    exact fateRow_none (hu.none hi)

/-! a plan -/
theorem check_iff (p : Pl) : checkB p = true ↔ (p.1.length ≤ 8 ∧ p.1.all zoneOk = true) ∧ (p.1.map nameOf).Nodup ∧ (p.2.1.length ≤ 32 ∧ p.2.1.all fateOk = true) ∧ (p.2.1.map adOf).Nodup ∧ 0 ≤ p.2.2.1 ∧ p.2.2.1 ≤ 200 ∧ p.2.2.2.1.length ≤ 16 ∧ p.2.2.2.1.all dropOk = true := by
  simp only [checkB, unlN, unlF, Bool.and_eq_true, decide_eq_true_eq]
theorem chk_no {p : Pl} (h : ¬ ((p.1.length ≤ 8 ∧ p.1.all zoneOk = true) ∧ (p.1.map nameOf).Nodup ∧ (p.2.1.length ≤ 32 ∧ p.2.1.all fateOk = true) ∧ (p.2.1.map adOf).Nodup ∧ 0 ≤ p.2.2.1 ∧ p.2.2.1 ≤ 200 ∧ p.2.2.2.1.length ≤ 16 ∧ p.2.2.2.1.all dropOk = true)) : ((90 : Int), ()) = (check p, ()) := by
  rw [check, no_of (check_iff p) h]; rfl
instance : DecidableEq Ty.str.El := inferInstanceAs (DecidableEq ByteArray)
theorem kStr : keyable .str = true := rfl
theorem v18 : Vc g18 300 Tryd.f18 cCheck := by
  constructor
  rw [v18_eq]
  simp only [Wr_iff, bcase_iff, true_and, and_true, decide_eq_true_eq, decide_eq_false_iff_not, Bool.and_eq_true, Bool.and_eq_false_iff, Bool.or_eq_true, Bool.or_eq_false_iff, Bool.not_eq_true', Bool.not_eq_false', Option.map_some, Option.getD_some, Option.isSome_some, Option.isSome_map, imp_self, nilL, noneO]
  intro x _
  generalize x.fst = p
  refine ⟨fun h1 => ⟨by ((repeat' apply And.intro) <;> first | exact Nat.le_refl _ | exact IdxI.zero _ _ | exact UnlI.zero _ _ | assumption), fun i hu => ⟨fun hi => ⟨hu.i0, hi, fun hg => ⟨fun h => absurd hu.i0 h, fun _ => chk_no (fun hc => by rw [hu.bad hi hg] at hc; cases hc.1.2)⟩, fun hg => ?_⟩, fun hi => ?_⟩⟩, fun h => chk_no (fun hc => by have := hc.1.1; omega)⟩
  · have hl : p.1.length ≤ 5000000000 := by have := h1.2; omega
    have k := hu.onN (ZoneT.zero) hl hi hg
    obtain ⟨k1, k2⟩ := k
    ((repeat' apply And.intro) <;> first | exact Nat.le_refl _ | exact IdxI.zero _ _ | exact UnlI.zero _ _ | assumption)
  have hz := hu.good hi
  clear hu hi i
  refine ⟨by ((repeat' apply And.intro) <;> first | exact Nat.le_refl _ | exact IdxI.zero _ _ | exact UnlI.zero _ _ | assumption), fun ⟨i, n, f⟩ hu => ⟨fun hi => ⟨hu.i0, hi, hu.room hi (by have := h1.2; omega), fun hg => ?_, fun hg => ?_⟩, fun hi => ?_⟩⟩
  · exact chk_no (fun hc => (UnlI.step (α := Zn) (kt := .str) kStr hu (by have := h1.2; omega) hi (z := ZoneT.zero) rfl).1 hg hc.2.1)
  · obtain ⟨k1, k2⟩ := (UnlI.step (α := Zn) (kt := .str) kStr hu (by have := h1.2; omega) hi (z := ZoneT.zero) rfl).2 hg
    ((repeat' apply And.intro) <;> first | exact Nat.le_refl _ | exact IdxI.zero _ _ | exact UnlI.zero _ _ | assumption)
  have hn := hu.fin hi
  clear hu hi
  refine ⟨fun h2 => ⟨by ((repeat' apply And.intro) <;> first | exact Nat.le_refl _ | exact IdxI.zero _ _ | exact UnlI.zero _ _ | assumption), fun i hu => ⟨fun hi => ⟨hu.i0, hi, fun hg => ⟨fun h => absurd hu.i0 h, fun _ => chk_no (fun hc => by rw [hu.bad hi hg] at hc; cases hc.2.2.1.2)⟩, fun hg => ?_⟩, fun hi => ?_⟩⟩, fun h => chk_no (fun hc => by have := hc.2.2.1.1; omega)⟩
  · have hl : p.2.1.length ≤ 5000000000 := by have := h2.2; omega
    obtain ⟨k1, k2⟩ := hu.onN (FatT.zero) hl hi hg
    ((repeat' apply And.intro) <;> first | exact Nat.le_refl _ | exact IdxI.zero _ _ | exact UnlI.zero _ _ | assumption)
  have hf := hu.good hi
  clear hu hi i
  refine ⟨by ((repeat' apply And.intro) <;> first | exact Nat.le_refl _ | exact IdxI.zero _ _ | exact UnlI.zero _ _ | assumption), fun ⟨i, n, f⟩ hu => ⟨fun hi => ⟨hu.i0, hi, hu.room hi (by have := h2.2; omega), fun hg => ?_, fun hg => ?_⟩, fun hi => ?_⟩⟩
  · exact chk_no (fun hc => (UnlI.step (α := Ft) (kt := AdT) kAd hu (by have := h2.2; omega) hi (z := FatT.zero) rfl).1 hg hc.2.2.2.1)
  · obtain ⟨k1, k2⟩ := (UnlI.step (α := Ft) (kt := AdT) kAd hu (by have := h2.2; omega) hi (z := FatT.zero) rfl).2 hg
    ((repeat' apply And.intro) <;> first | exact Nat.le_refl _ | exact IdxI.zero _ _ | exact UnlI.zero _ _ | assumption)
  have ha := hu.fin hi
  clear hu hi
  refine ⟨fun h3 => ⟨fun h4 => ⟨by ((repeat' apply And.intro) <;> first | exact Nat.le_refl _ | exact IdxI.zero _ _ | exact UnlI.zero _ _ | assumption), fun i hu => ⟨fun hi => ⟨hu.i0, hi, fun hg => ⟨fun h => absurd hu.i0 h, fun _ => chk_no (fun hc => by rw [hu.bad hi hg] at hc; cases hc.2.2.2.2.2.2.2)⟩, fun hg => ?_⟩, fun hi => ?_⟩⟩, fun h => chk_no (fun hc => by have := hc.2.2.2.2.2.2.1; omega)⟩, fun h => chk_no (fun hc => ?_)⟩
  · have hl : p.2.2.2.1.length ≤ 5000000000 := by have := h4.2; omega
    obtain ⟨k1, k2⟩ := hu.onN 0 hl hi hg
    ((repeat' apply And.intro) <;> first | exact Nat.le_refl _ | exact IdxI.zero _ _ | exact UnlI.zero _ _ | assumption)
  · have hd := hu.good hi
    have hl1 : p.1.length ≤ 8 := by have := h1.2; omega
    have hl2 : p.2.1.length ≤ 32 := by have := h2.2; omega
    have hl4 : p.2.2.2.1.length ≤ 16 := by have := h4.2; omega
    have hc : checkB p = true := (check_iff p).2 ⟨⟨hl1, hz⟩, hn, ⟨hl2, hf⟩, ha, h3.1, h3.2, hl4, hd⟩
    rw [check, hc]
    rfl
  · have q1 := hc.2.2.2.2.1
    have q2 := hc.2.2.2.2.2.1
    rcases h with (h | h) | h
    · simp at h
    · exact h q1
    · exact h q2
end Go.Proofs.YtfhlceooobabcaaDoor.Wd
namespace Go.Proofs.YtfhlceooobabcaaDoor.Wd
open Go Go.Eng Go.Lb Go.Ad
set_option maxRecDepth 100000
theorem val67 : Valid Tryd.prog GW 67 cRowOk := mkValidK gws Tb.mix Tb.tab_ok Tb.eqs_ok (by kernel_rfl) g67 rfl (allV_cons val26 allV_nil) (allI_cons Tryd.func68 (by kernel_rfl) (allI_cons Tryd.func69 (by kernel_rfl) allI_nil)) Tryd.func67 (by kernel_rfl) v67
theorem val39 : Valid Tryd.prog GW 39 cZone := mkValid gws Tb.mix Tb.tab_ok Tb.eqs_ok g39 rfl (allV_cons val26 (allV_cons (valFold val93) (allV_cons val67 allV_nil))) (allI_cons Tryd.func40 (by kernel_rfl) (allI_cons Tryd.func66 (by kernel_rfl) (allI_cons Tryd.func70 (by kernel_rfl) (allI_cons Tryd.func71 (by kernel_rfl) (allI_cons Tryd.func96 (by kernel_rfl) (allI_cons Tryd.func97 (by kernel_rfl) (allI_cons Tryd.func98 (by kernel_rfl) (allI_cons Tryd.func99 (by kernel_rfl) (allI_cons Tryd.func111 (by kernel_rfl) (allI_cons Tryd.func112 (by kernel_rfl) allI_nil)))))))))) Tryd.func39 (by kernel_rfl) v39
theorem val41 : Valid Tryd.prog GW 41 cFat := mkValid gws Tb.mix Tb.tab_ok Tb.eqs_ok g41 rfl (allV_cons val26 (allV_cons (valFold val93) allV_nil)) (allI_cons Tryd.func40 (by kernel_rfl) (allI_cons Tryd.func66 (by kernel_rfl) (allI_cons Tryd.func70 (by kernel_rfl) (allI_cons Tryd.func71 (by kernel_rfl) (allI_cons Tryd.func96 (by kernel_rfl) (allI_cons Tryd.func97 (by kernel_rfl) (allI_cons Tryd.func98 (by kernel_rfl) (allI_cons Tryd.func99 (by kernel_rfl) (allI_cons Tryd.func111 (by kernel_rfl) (allI_cons Tryd.func112 (by kernel_rfl) allI_nil)))))))))) Tryd.func41 (by kernel_rfl) v41
theorem val42 : Valid Tryd.prog GW 42 cDropOk := mkValid gws Tb.mix Tb.tab_ok Tb.eqs_ok g42 rfl (allV_cons val26 (allV_cons (valFold val93) allV_nil)) (allI_cons Tryd.func40 (by kernel_rfl) (allI_cons Tryd.func66 (by kernel_rfl) (allI_cons Tryd.func70 (by kernel_rfl) (allI_cons Tryd.func71 (by kernel_rfl) (allI_cons Tryd.func96 (by kernel_rfl) (allI_cons Tryd.func97 (by kernel_rfl) (allI_cons Tryd.func98 (by kernel_rfl) (allI_cons Tryd.func99 (by kernel_rfl) (allI_cons Tryd.func111 (by kernel_rfl) (allI_cons Tryd.func112 (by kernel_rfl) allI_nil)))))))))) Tryd.func42 (by kernel_rfl) v42
theorem val18 : Valid Tryd.prog GW 18 cCheck := mkValidK gws Tb.mix Tb.tab_ok Tb.eqs_ok (by kernel_rfl) g18 rfl (allV_cons val39 (allV_cons val41 (allV_cons val42 allV_nil))) (allI_cons Tryd.func43 (by kernel_rfl) (allI_cons Tryd.func44 (by kernel_rfl) (allI_cons Tryd.func45 (by kernel_rfl) (allI_cons Tryd.func46 (by kernel_rfl) (allI_cons Tryd.func47 (by kernel_rfl) (allI_cons Tryd.func48 (by kernel_rfl) (allI_cons Tryd.func49 (by kernel_rfl) (allI_cons Tryd.func50 (by kernel_rfl) (allI_cons Tryd.func72 (by kernel_rfl) (allI_cons Tryd.func73 (by kernel_rfl) (allI_cons Tryd.func74 (by kernel_rfl) (allI_cons Tryd.func75 (by kernel_rfl) (allI_cons Tryd.func76 (by kernel_rfl) (allI_cons Tryd.func77 (by kernel_rfl) (allI_cons Tryd.func80 (by kernel_rfl) (allI_cons Tryd.func100 (by kernel_rfl) allI_nil)))))))))))))))) Tryd.func18 (by kernel_rfl) v18
theorem val31 : Valid Tryd.prog GW 31 cFate := mkValid gws Tb.mix Tb.tab_ok Tb.eqs_ok g31 rfl allV_nil (allI_cons Tryd.func58 (by kernel_rfl) (allI_cons Tryd.func59 (by kernel_rfl) (allI_cons Tryd.func80 (by kernel_rfl) (allI_cons Tryd.func81 (by kernel_rfl) allI_nil)))) Tryd.func31 (by kernel_rfl) v31
end Go.Proofs.YtfhlceooobabcaaDoor.Wd
set_option maxRecDepth 100000
namespace Go.Proofs.YtfhlceooobabcaaDoor.Wd
open Go Go.Eng Go.Lb Go.Ad
abbrev DialT : Ty := .cons I64 (.cons AdT (.cons I8 (.cons .bool (.cons .bool .unit))))
abbrev LookT : Ty := .cons I64 (.cons .str (.cons I64 (.cons .bool .unit)))
abbrev SockT : Ty := .cons AdT (.cons I64 (.cons I64 (.cons I64 (.cons .bool .unit))))
abbrev MarkT : Ty := .cons .bool (.cons I64 (.cons I64 .unit))
abbrev WorldT : Ty := .cons PlanT (.cons I64 (.cons (.sl SockT) (.cons (.sl DialT) (.cons (.sl LookT) (.cons I64 (.cons (.sl MarkT) .unit))))))
abbrev LetT : Ty := .cons I8 (.cons I64 (.cons I64 (.cons I64 (.cons .str (.cons I64 .unit)))))
abbrev Dl := Int × Ad × Int × Bool × Bool × Unit
abbrev Lk := Int × ByteArray × Int × Bool × Unit
abbrev Sk := Ad × Int × Int × Int × Bool × Unit
abbrev Mk := Bool × Int × Int × Unit
abbrev Wd := Pl × Int × List Sk × List Dl × List Lk × Int × List Mk × Unit
abbrev Lt := Int × Int × Int × Int × ByteArray × Int × Unit
def zW : Wd := ((([] : List Zn), ([] : List Ft), 0, ([] : List Int), ()), 0, [], [], [], 0, [], ())
def zL : Lt := (0, 0, 0, 0, ByteArray.empty, 0, ())
def zDl : Dl := (0, zA, 0, false, false, ())
/-! what the world does -/
def newW (p : Pl) : Wd := bif checkB p then (p, 0, [], [], [], 0, [], ()) else zW
def byIs (b : Int) (d : Dl) : Bool := decide (d.1 = b)
def dlAd (a : Ad) (d : Dl) : Bool := decide (d.2.1 = a)
def ixD (l : List Dl) (b : Int) : Int := idxZ (byIs b) l
def nthD (l : List Dl) (a : Ad) : Int := (List.length (l.filter (dlAd a)) : Nat)
def putDl (w : Wd) (l : List Dl) : Wd := (w.1, w.2.1, w.2.2.1, l, w.2.2.2.2.1, w.2.2.2.2.2.1, w.2.2.2.2.2.2.1, ())
def dialE (w : Wd) (b : Int) (a : Ad) : Int := bif may1 a then (bif decide (0 ≤ ixD w.2.2.2.1 b) then 100 else 0) else 20
def dialW (w : Wd) (b : Int) (a : Ad) : Wd := bif decide (dialE w b a = 0) then putDl w (w.2.2.2.1 ++ [(b, a, fateF w.1 a (nthD w.2.2.2.1 a), false, false, ())]) else w
def overD (d : Dl) : Bool := d.2.2.2.2.1
def cutD (d : Dl) : Dl := (d.1, d.2.1, d.2.2.1, true, d.2.2.2.2.1, ())
def endD (d : Dl) : Dl := (d.1, d.2.1, d.2.2.1, d.2.2.2.1, true, ())
def getDl (l : List Dl) (i : Int) : Dl := l.getD i.toNat zDl
def setDl (l : List Dl) (i : Int) (f : Dl → Dl) : List Dl := l.set i.toNat (f (getDl l i))
def cutW (w : Wd) (b : Int) : Wd := bif decide (0 ≤ ixD w.2.2.2.1 b) && !overD (getDl w.2.2.2.1 (ixD w.2.2.2.1 b)) then putDl w (setDl w.2.2.2.1 (ixD w.2.2.2.1 b) cutD) else w
def readyD (d : Dl) : Bool := !overD d && (decide (d.2.2.1 = 0) || (decide (d.2.2.1 = 1) || decide (d.2.2.1 = 2) && d.2.2.2.1))
def readyW (w : Wd) (b : Int) : Bool := decide (0 ≤ ixD w.2.2.2.1 b) && readyD (getDl w.2.2.2.1 (ixD w.2.2.2.1 b))
def fateOf (w : Wd) (b : Int) : Int := (getDl w.2.2.2.1 (ixD w.2.2.2.1 b)).2.2.1
def endDs (w : Wd) (b : Int) : List Dl := setDl w.2.2.2.1 (ixD w.2.2.2.1 b) endD
def newS (a : Ad) (b now : Int) : Sk := (a, b, now, 0, false, ())
def endW (w : Wd) (b : Int) : Wd := bif readyW w b then
    (bif decide (fateOf w b = 0) then (w.1, w.2.1, w.2.2.1 ++ [newS (getDl w.2.2.2.1 (ixD w.2.2.2.1 b)).2.1 b w.2.1], endDs w b, w.2.2.2.2.1, w.2.2.2.2.2.1, w.2.2.2.2.2.2.1 ++ [(false, (w.2.2.1.length : Int), w.2.1, ())], ()) else putDl w (endDs w b)) else w
def endM (w : Wd) (b : Int) : Lt := bif readyW w b then (bif decide (fateOf w b = 0) then (11, 0, 0, (w.2.2.1.length : Int), ByteArray.empty, 0, ()) else (11, 0, 0, 0, ByteArray.empty, 160, ())) else zL
def endE (w : Wd) (b : Int) : Int := bif readyW w b then 0 else 100
def eqAd (a b : Ad) : Bool := decide (b = a)
def hasA (l : List Ad) (a : Ad) : Bool := l.any (eqAd a)
def underB (a : List Ad) (d : Dl) : Bool := !overD d && (decide (a.length = 0) || hasA a d.2.1)
def underW (w : Wd) (a : List Ad) : Int := (List.length (w.2.2.2.1.filter (underB a)) : Nat)
/-! contracts -/
def okD (l : List Dl) : Bool := decide (l.length ≤ 1000000)
def okW (w : Wd) : Bool := okD w.2.2.2.1 && (decide (w.2.2.1.length ≤ 1000000) && (decide (w.2.2.2.2.2.2.1.length ≤ 1000000) && okP w.1))
def cNew : Contract := conD (.cons PlanT .unit) (.cons WorldT (.cons I64 .unit)) (fun _ => true) fun x => (newW x.1, (check x.1, ()))
def cDial : Contract := conD (.cons WorldT (.cons I64 (.cons AdT .unit))) (.cons WorldT (.cons I64 .unit)) (fun x => okW x.1) fun x => (dialW x.1 x.2.1 x.2.2.1, (dialE x.1 x.2.1 x.2.2.1, ()))
def cCut : Contract := conD (.cons WorldT (.cons I64 .unit)) (.cons WorldT .unit) (fun x => okW x.1) fun x => (cutW x.1 x.2.1, ())
def cReady : Contract := conD (.cons WorldT (.cons I64 .unit)) (.cons .bool .unit) (fun x => okW x.1) fun x => (readyW x.1 x.2.1, ())
def cEnd : Contract := conD (.cons WorldT (.cons I64 .unit)) (.cons WorldT (.cons LetT (.cons I64 .unit))) (fun x => okW x.1) fun x => (endW x.1 x.2.1, (endM x.1 x.2.1, (endE x.1 x.2.1, ())))
abbrev GlobeT : Ty := .cons WorldT .unit
def glW (o : Option (Wd × Unit)) : Wd := match o with
  | some w => w.1
  | none => zW
def okG (o : Option (Wd × Unit)) : Bool := o.isSome && okW (glW o)
def cDialP : Contract := conD (.cons (.ptr GlobeT) (.cons I64 .unit)) (.cons I64 .unit) (fun x => okG x.1) fun x => (ixD (glW x.1).2.2.2.1 x.2.1, ())
def cReadyP : Contract := conD (.cons (.ptr GlobeT) (.cons I64 .unit)) (.cons .bool .unit) (fun x => okG x.1) fun x => (readyW (glW x.1) x.2.1, ())
def cUnder : Contract := conD (.cons WorldT (.cons AdL .unit)) (.cons I64 .unit) (fun x => okW x.1 && lenA x.2.1) fun x => (underW x.1 x.2.1, ())
def addS (l : List Sk) (a : Ad) (b now : Int) : List Sk := l ++ [newS a b now]
def addM (m : List Mk) (s : Bool) (n now : Int) : List Mk := m ++ [(s, n, now, ())]
def lenS (l : List Sk) : Int := l.length
def okSM (l : List Sk) (m : List Mk) : Bool := decide (l.length ≤ 1000000) && decide (m.length ≤ 1000000)
def cOpen : Contract := conD (.cons (.sl SockT) (.cons (.sl MarkT) (.cons AdT (.cons I64 (.cons I64 .unit))))) (.cons (.sl SockT) (.cons (.sl MarkT) (.cons I64 .unit))) (fun x => okSM x.1 x.2.1)
  fun x => (addS x.1 x.2.2.1 x.2.2.2.1 x.2.2.2.2.1, (addM x.2.1 false (lenS x.1) x.2.2.2.2.1, (lenS x.1, ())))
def cHas : Contract := conD (.cons AdL (.cons AdT .unit)) (.cons .bool .unit) (fun x => lenA x.1) fun x => (hasA x.1 x.2.1, ())
/-! loops -/
def cntB {α : Type} (p : α → Bool) (l : List α) (i : Int) : Int := (List.length ((l.take i.toNat).filter p) : Nat)
structure CntI {α : Type} (p : α → Bool) (l : List α) (i n : Int) : Prop where
  i0 : 0 ≤ i
  i1 : i ≤ l.length
  a : n = cntB p l i
def manyL (nx : Nat) (p : St → Dl → Bool) : LoopAnn where
  α := Int × Int
  keep := [0, 1, 7, 8]
  okeep := []
  nxt := nx
  env := fun _ x => [(9, .dat I64 x.1), (4, .dat I64 x.2)]
  own := fun _ _ => []
  inv := fun s x => CntI (p s) (bDat (.sl DialT) s 0).out x.1 x.2
  mu := fun s x => List.length (α := Dl) (bDat (.sl DialT) s 0).out - x.1.toNat
  pick := some fun _ s => ((bDat I64 s 9).out, (bDat I64 s 4).out)
def boxO (s : St) (k : Nat) : Go.Eng.Own := match Go.Eng.look s.env k with
  | .pt o _ => [(o, lookO s.own o)]
  | _ => []
def hasL : LoopAnn where
  α := Int
  keep := [0, 3, 6, 7]
  okeep := []
  nxt := 3000
  env := fun _ x => [(8, .dat I64 x)]
  own := fun s _ => boxO s 3
  inv := fun s x => IdxI (eqAd (bDat AdT s 1).out) (bDat AdL s 0).out x
  mu := fun s x => List.length (α := Ad) (bDat AdL s 0).out - x.toNat
  pick := some fun _ s => (bDat I64 s 8).out
end Go.Proofs.YtfhlceooobabcaaDoor.Wd
namespace Go.Proofs.YtfhlceooobabcaaDoor.Wd
open Go Go.Eng Go.Lb Go.Ad
set_option maxRecDepth 100000
noncomputable def g30 : Cfg := { tab := Tb.tab, cons := [], inls := [], loops := [], cuts := [], unroll := false, arrs := [], keys := [] }
noncomputable def g61 : Cfg := { tab := Tb.tab, cons := [], inls := [], loops := [], cuts := [], unroll := false, arrs := [], keys := [] }
noncomputable def g62 : Cfg := { tab := Tb.tab, cons := [], inls := [], loops := [], cuts := [], unroll := false, arrs := [], keys := [] }
noncomputable def g60 : Cfg := { tab := Tb.tab, cons := [], inls := [], loops := [], cuts := [], unroll := false, arrs := [], keys := [] }
noncomputable def g6 : Cfg := { tab := Tb.tab, cons := [(18, cCheck)], inls := [], loops := [], cuts := [], unroll := false, arrs := [], keys := [] }
noncomputable def g27 : Cfg := { tab := Tb.tab, cons := [], inls := [(56, Tryd.f56), (57, Tryd.f57), (79, Tryd.f79)], loops := [(800002, idxL 3000 DialT fun s => byIs (capDat I64 s 1).out)], cuts := [], unroll := false, arrs := [], keys := [] }
noncomputable def g34 : Cfg := { tab := Tb.tab, cons := [(27, cDialP)], inls := [], loops := [], cuts := [], unroll := false, arrs := [], keys := [] }
noncomputable def g12 : Cfg := { tab := Tb.tab, cons := [(26, cMay), (27, cDialP), (30, cClip DialT), (31, cFate)], inls := [(28, Tryd.f28), (29, Tryd.f29)], loops := [(290002, manyL 4000 fun s => dlAd (capDat AdT s 1).out)], cuts := [], unroll := false, arrs := [], keys := [] }
noncomputable def g13 : Cfg := { tab := Tb.tab, cons := [(27, cDialP), (60, cClone 83 48 DialT)], inls := [(32, Tryd.f32), (33, Tryd.f33)], loops := [], cuts := [], unroll := false, arrs := [], keys := [] }
noncomputable def g14 : Cfg := { tab := Tb.tab, cons := [(34, cReadyP)], inls := [], loops := [], cuts := [], unroll := false, arrs := [], keys := [] }
noncomputable def g36 : Cfg := { tab := Tb.tab, cons := [(61, cClip SockT), (62, cClip MarkT)], inls := [], loops := [], cuts := [], unroll := false, arrs := [], keys := [] }
noncomputable def g15 : Cfg := { tab := Tb.tab, cons := [(27, cDialP), (34, cReadyP), (36, cOpen), (60, cClone 83 48 DialT)], inls := [(32, Tryd.f32), (35, Tryd.f35)], loops := [], cuts := [], unroll := false, arrs := [], keys := [] }
noncomputable def g55 : Cfg := { tab := Tb.tab, cons := [], inls := [(78, Tryd.f78)], loops := [(790002, hasL)], cuts := [], unroll := false, arrs := [], keys := [] }
noncomputable def g23 : Cfg := { tab := Tb.tab, cons := [(55, cHas)], inls := [(28, Tryd.f28), (54, Tryd.f54)], loops := [(290002, manyL 4000 fun s => underB (capDat AdL s 1).out)], cuts := [], unroll := false, arrs := [], keys := [] }
end Go.Proofs.YtfhlceooobabcaaDoor.Wd
namespace Go.Proofs.YtfhlceooobabcaaDoor.Wd
open Go Go.Eng Go.Lb Go.Ad
set_option maxRecDepth 100000
theorem v30_eq : vcFn g30 300 Tryd.f30 (cClip DialT) = ( ∀ (x : List (Int × (Int × (Int × Int × Int × Int × Int × Int × Int × Int × Unit) × Int × Unit) × Int × Bool × Bool × Unit) × Unit), Wr True → Wr ((0 : Int) ≤ (0 : Int)) ∧ Wr ((0 : Int) ≤ (↑(List.length x.fst) : Int)) ∧
  Wr ((↑(List.length x.fst) : Int) ≤ (↑(List.length x.fst) : Int)) ∧ Wr ((↑(List.length x.fst) : Int) = (↑(List.length x.fst) : Int)) ∧ (List.drop (Int.toNat (0 : Int)) (List.take (Int.toNat (↑(List.length x.fst) : Int))
  x.fst), ()) = x) := by kernel_rfl
theorem v61_eq : vcFn g61 300 Tryd.f61 (cClip SockT) = ( ∀ (x : List ((Int × (Int × Int × Int × Int × Int × Int × Int × Int × Unit) × Int × Unit) × Int × Int × Int × Bool × Unit) × Unit), Wr True → Wr ((0 : Int) ≤ (0 : Int)) ∧ Wr ((0 : Int) ≤ (↑(List.length x.fst) : Int)) ∧ Wr
  ((↑(List.length x.fst) : Int) ≤ (↑(List.length x.fst) : Int)) ∧ Wr ((↑(List.length x.fst) : Int) = (↑(List.length x.fst) : Int)) ∧ (List.drop (Int.toNat (0 : Int)) (List.take (Int.toNat (↑(List.length x.fst) : Int))
  x.fst), ()) = x) := by kernel_rfl
theorem v62_eq : vcFn g62 300 Tryd.f62 (cClip MarkT) = ( ∀ (x : List (Bool × Int × Int × Unit) × Unit), Wr True → Wr ((0 : Int) ≤ (0 : Int)) ∧ Wr ((0 : Int) ≤ (↑(List.length x.fst) : Int)) ∧ Wr ((↑(List.length x.fst) : Int) ≤ (↑(List.length x.fst) : Int)) ∧ Wr ((↑(List.length
  x.fst) : Int) = (↑(List.length x.fst) : Int)) ∧ (List.drop (Int.toNat (0 : Int)) (List.take (Int.toNat (↑(List.length x.fst) : Int)) x.fst), ()) = x) := by kernel_rfl
theorem v60_eq : vcFn g60 300 Tryd.f60 (cClone 83 48 DialT) = ( ∀ (x : List (Int × (Int × (Int × Int × Int × Int × Int × Int × Int × Int × Unit) × Int × Unit) × Int × Bool × Bool × Unit) × Unit), Wr (Decidable.decide (List.length x.fst * (48 : Nat) ≤ (140737488355328 : Nat)) =
  Bool.true) → ∀ (b : Bool), Wr (b = Bool.true → x.fst = nilL (Int × (Int × (Int × Int × Int × Int × Int × Int × Int × Int × Unit) × Int × Unit) × Int × Bool × Bool × Unit)) → bcase b (x.fst = nilL (Int × (Int × (Int ×
  Int × Int × Int × Int × Int × Int × Int × Unit) × Int × Unit) × Int × Bool × Bool × Unit)) (Wr ((List.length (nilL (Int × (Int × (Int × Int × Int × Int × Int × Int × Int × Int × Unit) × Int × Unit) × Int × Bool × Bool ×
  Unit)) + List.length x.fst) * (48 : Nat) ≤ (140737488355328 : Nat)) ∧ nilL (Int × (Int × (Int × Int × Int × Int × Int × Int × Int × Int × Unit) × Int × Unit) × Int × Bool × Bool × Unit) ++ x.fst = x.fst)) := by kernel_rfl
theorem v6_eq : vcFn g6 300 Tryd.f6 cNew = ( ∀ (x : (List (ByteArray × List (List (Int × (Int × Int × Int × Int × Int × Int × Int × Int × Unit) × Int × Unit)) × Unit) × List ((Int × (Int × Int × Int × Int × Int × Int × Int × Int × Unit) × Int × Unit) × List Int ×
  Unit) × Int × List Int × Unit) × Unit), Wr (Bool.true = Bool.true) → Wr (Bool.true = Bool.true) ∧ bcase (Decidable.decide (check x.fst = (0 : Int))) (((x.fst, (0 : Int), nilL ((Int × (Int × Int × Int × Int × Int × Int ×
  Int × Int × Unit) × Int × Unit) × Int × Int × Int × Bool × Unit), nilL (Int × (Int × (Int × Int × Int × Int × Int × Int × Int × Int × Unit) × Int × Unit) × Int × Bool × Bool × Unit), nilL (Int × ByteArray × Int × Bool ×
  Unit), (0 : Int), nilL (Bool × Int × Int × Unit), ()), check x.fst, ()) = (newW x.fst, check x.fst, ())) ((((nilL (ByteArray × List (List (Int × (Int × Int × Int × Int × Int × Int × Int × Int × Unit) × Int × Unit)) ×
  Unit), nilL ((Int × (Int × Int × Int × Int × Int × Int × Int × Int × Unit) × Int × Unit) × List Int × Unit), (0 : Int), nilL Int, ()), (0 : Int), nilL ((Int × (Int × Int × Int × Int × Int × Int × Int × Int × Unit) × Int
  × Unit) × Int × Int × Int × Bool × Unit), nilL (Int × (Int × (Int × Int × Int × Int × Int × Int × Int × Int × Unit) × Int × Unit) × Int × Bool × Bool × Unit), nilL (Int × ByteArray × Int × Bool × Unit), (0 : Int), nilL
  (Bool × Int × Int × Unit), ()), check x.fst, ()) = (newW x.fst, check x.fst, ()))) := by kernel_rfl
theorem v27_eq : vcFn g27 300 Tryd.f27 cDialP = ( ∀ (x : Option (((List (ByteArray × List (List (Int × (Int × Int × Int × Int × Int × Int × Int × Int × Unit) × Int × Unit)) × Unit) × List ((Int × (Int × Int × Int × Int × Int × Int × Int × Int × Unit) × Int × Unit) ×
  List Int × Unit) × Int × List Int × Unit) × Int × List ((Int × (Int × Int × Int × Int × Int × Int × Int × Int × Unit) × Int × Unit) × Int × Int × Int × Bool × Unit) × List (Int × (Int × (Int × Int × Int × Int × Int ×
  Int × Int × Int × Unit) × Int × Unit) × Int × Bool × Bool × Unit) × List (Int × ByteArray × Int × Bool × Unit) × Int × List (Bool × Int × Int × Unit) × Unit) × Unit) × Int × Unit), Wr (okG x.fst = Bool.true) → Wr
  (Option.isSome x.fst = Bool.true) ∧ Wr (Option.isSome x.fst = Bool.true) ∧ Wr (Option.isSome (Option.map (fun (x : ((List (ByteArray × List (List (Int × (Int × Int × Int × Int × Int × Int × Int × Int × Unit) × Int ×
  Unit)) × Unit) × List ((Int × (Int × Int × Int × Int × Int × Int × Int × Int × Unit) × Int × Unit) × List Int × Unit) × Int × List Int × Unit) × Int × List ((Int × (Int × Int × Int × Int × Int × Int × Int × Int × Unit)
  × Int × Unit) × Int × Int × Int × Bool × Unit) × List (Int × (Int × (Int × Int × Int × Int × Int × Int × Int × Int × Unit) × Int × Unit) × Int × Bool × Bool × Unit) × List (Int × ByteArray × Int × Bool × Unit) × Int ×
  List (Bool × Int × Int × Unit) × Unit) × Unit) => x.fst) x.fst) = Bool.true) ∧ Wr (Option.isSome (Option.map (fun (x : (List (ByteArray × List (List (Int × (Int × Int × Int × Int × Int × Int × Int × Int × Unit) × Int ×
  Unit)) × Unit) × List ((Int × (Int × Int × Int × Int × Int × Int × Int × Int × Unit) × Int × Unit) × List Int × Unit) × Int × List Int × Unit) × Int × List ((Int × (Int × Int × Int × Int × Int × Int × Int × Int × Unit)
  × Int × Unit) × Int × Int × Int × Bool × Unit) × List (Int × (Int × (Int × Int × Int × Int × Int × Int × Int × Int × Unit) × Int × Unit) × Int × Bool × Bool × Unit) × List (Int × ByteArray × Int × Bool × Unit) × Int ×
  List (Bool × Int × Int × Unit) × Unit) => x.snd.snd.snd.fst) (Option.map (fun (x : ((List (ByteArray × List (List (Int × (Int × Int × Int × Int × Int × Int × Int × Int × Unit) × Int × Unit)) × Unit) × List ((Int × (Int
  × Int × Int × Int × Int × Int × Int × Int × Unit) × Int × Unit) × List Int × Unit) × Int × List Int × Unit) × Int × List ((Int × (Int × Int × Int × Int × Int × Int × Int × Int × Unit) × Int × Unit) × Int × Int × Int ×
  Bool × Unit) × List (Int × (Int × (Int × Int × Int × Int × Int × Int × Int × Int × Unit) × Int × Unit) × Int × Bool × Bool × Unit) × List (Int × ByteArray × Int × Bool × Unit) × Int × List (Bool × Int × Int × Unit) ×
  Unit) × Unit) => x.fst) x.fst)) = Bool.true) ∧ (Wr (IdxI (byIs x.snd.fst) (Option.getD (Option.map (fun (x : (List (ByteArray × List (List (Int × (Int × Int × Int × Int × Int × Int × Int × Int × Unit) × Int × Unit)) ×
  Unit) × List ((Int × (Int × Int × Int × Int × Int × Int × Int × Int × Unit) × Int × Unit) × List Int × Unit) × Int × List Int × Unit) × Int × List ((Int × (Int × Int × Int × Int × Int × Int × Int × Int × Unit) × Int ×
  Unit) × Int × Int × Int × Bool × Unit) × List (Int × (Int × (Int × Int × Int × Int × Int × Int × Int × Int × Unit) × Int × Unit) × Int × Bool × Bool × Unit) × List (Int × ByteArray × Int × Bool × Unit) × Int × List
  (Bool × Int × Int × Unit) × Unit) => x.snd.snd.snd.fst) (Option.map (fun (x : ((List (ByteArray × List (List (Int × (Int × Int × Int × Int × Int × Int × Int × Int × Unit) × Int × Unit)) × Unit) × List ((Int × (Int × Int
  × Int × Int × Int × Int × Int × Int × Unit) × Int × Unit) × List Int × Unit) × Int × List Int × Unit) × Int × List ((Int × (Int × Int × Int × Int × Int × Int × Int × Int × Unit) × Int × Unit) × Int × Int × Int × Bool ×
  Unit) × List (Int × (Int × (Int × Int × Int × Int × Int × Int × Int × Int × Unit) × Int × Unit) × Int × Bool × Bool × Unit) × List (Int × ByteArray × Int × Bool × Unit) × Int × List (Bool × Int × Int × Unit) × Unit) ×
  Unit) => x.fst) x.fst)) (Ty.zero (Ty.sl DialT))) (0 : Int)) ∧ Wr ((0 : Int) = (0 : Int)) ∧ Wr (Option.getD (Option.map (fun (x : (List (ByteArray × List (List (Int × (Int × Int × Int × Int × Int × Int × Int × Int ×
  Unit) × Int × Unit)) × Unit) × List ((Int × (Int × Int × Int × Int × Int × Int × Int × Int × Unit) × Int × Unit) × List Int × Unit) × Int × List Int × Unit) × Int × List ((Int × (Int × Int × Int × Int × Int × Int × Int
  × Int × Unit) × Int × Unit) × Int × Int × Int × Bool × Unit) × List (Int × (Int × (Int × Int × Int × Int × Int × Int × Int × Int × Unit) × Int × Unit) × Int × Bool × Bool × Unit) × List (Int × ByteArray × Int × Bool ×
  Unit) × Int × List (Bool × Int × Int × Unit) × Unit) => x.snd.snd.snd.fst) (Option.map (fun (x : ((List (ByteArray × List (List (Int × (Int × Int × Int × Int × Int × Int × Int × Int × Unit) × Int × Unit)) × Unit) × List
  ((Int × (Int × Int × Int × Int × Int × Int × Int × Int × Unit) × Int × Unit) × List Int × Unit) × Int × List Int × Unit) × Int × List ((Int × (Int × Int × Int × Int × Int × Int × Int × Int × Unit) × Int × Unit) × Int ×
  Int × Int × Bool × Unit) × List (Int × (Int × (Int × Int × Int × Int × Int × Int × Int × Int × Unit) × Int × Unit) × Int × Bool × Bool × Unit) × List (Int × ByteArray × Int × Bool × Unit) × Int × List (Bool × Int × Int
  × Unit) × Unit) × Unit) => x.fst) x.fst)) (Ty.zero (Ty.sl DialT)) = Option.getD (Option.map (fun (x : (List (ByteArray × List (List (Int × (Int × Int × Int × Int × Int × Int × Int × Int × Unit) × Int × Unit)) × Unit) ×
  List ((Int × (Int × Int × Int × Int × Int × Int × Int × Int × Unit) × Int × Unit) × List Int × Unit) × Int × List Int × Unit) × Int × List ((Int × (Int × Int × Int × Int × Int × Int × Int × Int × Unit) × Int × Unit) ×
  Int × Int × Int × Bool × Unit) × List (Int × (Int × (Int × Int × Int × Int × Int × Int × Int × Int × Unit) × Int × Unit) × Int × Bool × Bool × Unit) × List (Int × ByteArray × Int × Bool × Unit) × Int × List (Bool × Int
  × Int × Unit) × Unit) => x.snd.snd.snd.fst) (Option.map (fun (x : ((List (ByteArray × List (List (Int × (Int × Int × Int × Int × Int × Int × Int × Int × Unit) × Int × Unit)) × Unit) × List ((Int × (Int × Int × Int × Int
  × Int × Int × Int × Int × Unit) × Int × Unit) × List Int × Unit) × Int × List Int × Unit) × Int × List ((Int × (Int × Int × Int × Int × Int × Int × Int × Int × Unit) × Int × Unit) × Int × Int × Int × Bool × Unit) × List
  (Int × (Int × (Int × Int × Int × Int × Int × Int × Int × Int × Unit) × Int × Unit) × Int × Bool × Bool × Unit) × List (Int × ByteArray × Int × Bool × Unit) × Int × List (Bool × Int × Int × Unit) × Unit) × Unit) =>
  x.fst) x.fst)) (Ty.zero (Ty.sl DialT))) ∧ Wr (Option.getD (Option.map (fun (x : (List (ByteArray × List (List (Int × (Int × Int × Int × Int × Int × Int × Int × Int × Unit) × Int × Unit)) × Unit) × List ((Int × (Int ×
  Int × Int × Int × Int × Int × Int × Int × Unit) × Int × Unit) × List Int × Unit) × Int × List Int × Unit) × Int × List ((Int × (Int × Int × Int × Int × Int × Int × Int × Int × Unit) × Int × Unit) × Int × Int × Int ×
  Bool × Unit) × List (Int × (Int × (Int × Int × Int × Int × Int × Int × Int × Int × Unit) × Int × Unit) × Int × Bool × Bool × Unit) × List (Int × ByteArray × Int × Bool × Unit) × Int × List (Bool × Int × Int × Unit) ×
  Unit) => x.snd.snd.snd.fst) (Option.map (fun (x : ((List (ByteArray × List (List (Int × (Int × Int × Int × Int × Int × Int × Int × Int × Unit) × Int × Unit)) × Unit) × List ((Int × (Int × Int × Int × Int × Int × Int ×
  Int × Int × Unit) × Int × Unit) × List Int × Unit) × Int × List Int × Unit) × Int × List ((Int × (Int × Int × Int × Int × Int × Int × Int × Int × Unit) × Int × Unit) × Int × Int × Int × Bool × Unit) × List (Int × (Int ×
  (Int × Int × Int × Int × Int × Int × Int × Int × Unit) × Int × Unit) × Int × Bool × Bool × Unit) × List (Int × ByteArray × Int × Bool × Unit) × Int × List (Bool × Int × Int × Unit) × Unit) × Unit) => x.fst) x.fst))
  (Ty.zero (Ty.sl DialT)) = Option.getD (Option.map (fun (x : (List (ByteArray × List (List (Int × (Int × Int × Int × Int × Int × Int × Int × Int × Unit) × Int × Unit)) × Unit) × List ((Int × (Int × Int × Int × Int × Int
  × Int × Int × Int × Unit) × Int × Unit) × List Int × Unit) × Int × List Int × Unit) × Int × List ((Int × (Int × Int × Int × Int × Int × Int × Int × Int × Unit) × Int × Unit) × Int × Int × Int × Bool × Unit) × List (Int
  × (Int × (Int × Int × Int × Int × Int × Int × Int × Int × Unit) × Int × Unit) × Int × Bool × Bool × Unit) × List (Int × ByteArray × Int × Bool × Unit) × Int × List (Bool × Int × Int × Unit) × Unit) => x.snd.snd.snd.fst)
  (Option.map (fun (x : ((List (ByteArray × List (List (Int × (Int × Int × Int × Int × Int × Int × Int × Int × Unit) × Int × Unit)) × Unit) × List ((Int × (Int × Int × Int × Int × Int × Int × Int × Int × Unit) × Int ×
  Unit) × List Int × Unit) × Int × List Int × Unit) × Int × List ((Int × (Int × Int × Int × Int × Int × Int × Int × Int × Unit) × Int × Unit) × Int × Int × Int × Bool × Unit) × List (Int × (Int × (Int × Int × Int × Int ×
  Int × Int × Int × Int × Unit) × Int × Unit) × Int × Bool × Bool × Unit) × List (Int × ByteArray × Int × Bool × Unit) × Int × List (Bool × Int × Int × Unit) × Unit) × Unit) => x.fst) x.fst)) (Ty.zero (Ty.sl DialT))) ∧ Wr
  ((↑(List.length (Option.getD (Option.map (fun (x : (List (ByteArray × List (List (Int × (Int × Int × Int × Int × Int × Int × Int × Int × Unit) × Int × Unit)) × Unit) × List ((Int × (Int × Int × Int × Int × Int × Int ×
  Int × Int × Unit) × Int × Unit) × List Int × Unit) × Int × List Int × Unit) × Int × List ((Int × (Int × Int × Int × Int × Int × Int × Int × Int × Unit) × Int × Unit) × Int × Int × Int × Bool × Unit) × List (Int × (Int ×
  (Int × Int × Int × Int × Int × Int × Int × Int × Unit) × Int × Unit) × Int × Bool × Bool × Unit) × List (Int × ByteArray × Int × Bool × Unit) × Int × List (Bool × Int × Int × Unit) × Unit) => x.snd.snd.snd.fst)
  (Option.map (fun (x : ((List (ByteArray × List (List (Int × (Int × Int × Int × Int × Int × Int × Int × Int × Unit) × Int × Unit)) × Unit) × List ((Int × (Int × Int × Int × Int × Int × Int × Int × Int × Unit) × Int ×
  Unit) × List Int × Unit) × Int × List Int × Unit) × Int × List ((Int × (Int × Int × Int × Int × Int × Int × Int × Int × Unit) × Int × Unit) × Int × Int × Int × Bool × Unit) × List (Int × (Int × (Int × Int × Int × Int ×
  Int × Int × Int × Int × Unit) × Int × Unit) × Int × Bool × Bool × Unit) × List (Int × ByteArray × Int × Bool × Unit) × Int × List (Bool × Int × Int × Unit) × Unit) × Unit) => x.fst) x.fst)) (Ty.zero (Ty.sl DialT)))) :
  Int) = (↑(List.length (Option.getD (Option.map (fun (x : (List (ByteArray × List (List (Int × (Int × Int × Int × Int × Int × Int × Int × Int × Unit) × Int × Unit)) × Unit) × List ((Int × (Int × Int × Int × Int × Int ×
  Int × Int × Int × Unit) × Int × Unit) × List Int × Unit) × Int × List Int × Unit) × Int × List ((Int × (Int × Int × Int × Int × Int × Int × Int × Int × Unit) × Int × Unit) × Int × Int × Int × Bool × Unit) × List (Int ×
  (Int × (Int × Int × Int × Int × Int × Int × Int × Int × Unit) × Int × Unit) × Int × Bool × Bool × Unit) × List (Int × ByteArray × Int × Bool × Unit) × Int × List (Bool × Int × Int × Unit) × Unit) => x.snd.snd.snd.fst)
  (Option.map (fun (x : ((List (ByteArray × List (List (Int × (Int × Int × Int × Int × Int × Int × Int × Int × Unit) × Int × Unit)) × Unit) × List ((Int × (Int × Int × Int × Int × Int × Int × Int × Int × Unit) × Int ×
  Unit) × List Int × Unit) × Int × List Int × Unit) × Int × List ((Int × (Int × Int × Int × Int × Int × Int × Int × Int × Unit) × Int × Unit) × Int × Int × Int × Bool × Unit) × List (Int × (Int × (Int × Int × Int × Int ×
  Int × Int × Int × Int × Unit) × Int × Unit) × Int × Bool × Bool × Unit) × List (Int × ByteArray × Int × Bool × Unit) × Int × List (Bool × Int × Int × Unit) × Unit) × Unit) => x.fst) x.fst)) (Ty.zero (Ty.sl DialT)))) :
  Int)) ∧ Wr (x.snd.fst = x.snd.fst)) ∧ ∀ (x_1 : Int), Wr (IdxI (byIs x.snd.fst) (Option.getD (Option.map (fun (x : (List (ByteArray × List (List (Int × (Int × Int × Int × Int × Int × Int × Int × Int × Unit) × Int ×
  Unit)) × Unit) × List ((Int × (Int × Int × Int × Int × Int × Int × Int × Int × Unit) × Int × Unit) × List Int × Unit) × Int × List Int × Unit) × Int × List ((Int × (Int × Int × Int × Int × Int × Int × Int × Int × Unit)
  × Int × Unit) × Int × Int × Int × Bool × Unit) × List (Int × (Int × (Int × Int × Int × Int × Int × Int × Int × Int × Unit) × Int × Unit) × Int × Bool × Bool × Unit) × List (Int × ByteArray × Int × Bool × Unit) × Int ×
  List (Bool × Int × Int × Unit) × Unit) => x.snd.snd.snd.fst) (Option.map (fun (x : ((List (ByteArray × List (List (Int × (Int × Int × Int × Int × Int × Int × Int × Int × Unit) × Int × Unit)) × Unit) × List ((Int × (Int
  × Int × Int × Int × Int × Int × Int × Int × Unit) × Int × Unit) × List Int × Unit) × Int × List Int × Unit) × Int × List ((Int × (Int × Int × Int × Int × Int × Int × Int × Int × Unit) × Int × Unit) × Int × Int × Int ×
  Bool × Unit) × List (Int × (Int × (Int × Int × Int × Int × Int × Int × Int × Int × Unit) × Int × Unit) × Int × Bool × Bool × Unit) × List (Int × ByteArray × Int × Bool × Unit) × Int × List (Bool × Int × Int × Unit) ×
  Unit) × Unit) => x.fst) x.fst)) (Ty.zero (Ty.sl DialT))) x_1) → bcase (Decidable.decide (x_1 < (↑(List.length (Option.getD (Option.map (fun (x : (List (ByteArray × List (List (Int × (Int × Int × Int × Int × Int × Int ×
  Int × Int × Unit) × Int × Unit)) × Unit) × List ((Int × (Int × Int × Int × Int × Int × Int × Int × Int × Unit) × Int × Unit) × List Int × Unit) × Int × List Int × Unit) × Int × List ((Int × (Int × Int × Int × Int × Int
  × Int × Int × Int × Unit) × Int × Unit) × Int × Int × Int × Bool × Unit) × List (Int × (Int × (Int × Int × Int × Int × Int × Int × Int × Int × Unit) × Int × Unit) × Int × Bool × Bool × Unit) × List (Int × ByteArray ×
  Int × Bool × Unit) × Int × List (Bool × Int × Int × Unit) × Unit) => x.snd.snd.snd.fst) (Option.map (fun (x : ((List (ByteArray × List (List (Int × (Int × Int × Int × Int × Int × Int × Int × Int × Unit) × Int × Unit)) ×
  Unit) × List ((Int × (Int × Int × Int × Int × Int × Int × Int × Int × Unit) × Int × Unit) × List Int × Unit) × Int × List Int × Unit) × Int × List ((Int × (Int × Int × Int × Int × Int × Int × Int × Int × Unit) × Int ×
  Unit) × Int × Int × Int × Bool × Unit) × List (Int × (Int × (Int × Int × Int × Int × Int × Int × Int × Int × Unit) × Int × Unit) × Int × Bool × Bool × Unit) × List (Int × ByteArray × Int × Bool × Unit) × Int × List
  (Bool × Int × Int × Unit) × Unit) × Unit) => x.fst) x.fst)) (Ty.zero (Ty.sl DialT)))) : Int))) (Wr ((0 : Int) ≤ x_1) ∧ Wr (x_1 < (↑(List.length (Option.getD (Option.map (fun (x : (List (ByteArray × List (List (Int ×
  (Int × Int × Int × Int × Int × Int × Int × Int × Unit) × Int × Unit)) × Unit) × List ((Int × (Int × Int × Int × Int × Int × Int × Int × Int × Unit) × Int × Unit) × List Int × Unit) × Int × List Int × Unit) × Int × List
  ((Int × (Int × Int × Int × Int × Int × Int × Int × Int × Unit) × Int × Unit) × Int × Int × Int × Bool × Unit) × List (Int × (Int × (Int × Int × Int × Int × Int × Int × Int × Int × Unit) × Int × Unit) × Int × Bool × Bool
  × Unit) × List (Int × ByteArray × Int × Bool × Unit) × Int × List (Bool × Int × Int × Unit) × Unit) => x.snd.snd.snd.fst) (Option.map (fun (x : ((List (ByteArray × List (List (Int × (Int × Int × Int × Int × Int × Int ×
  Int × Int × Unit) × Int × Unit)) × Unit) × List ((Int × (Int × Int × Int × Int × Int × Int × Int × Int × Unit) × Int × Unit) × List Int × Unit) × Int × List Int × Unit) × Int × List ((Int × (Int × Int × Int × Int × Int
  × Int × Int × Int × Unit) × Int × Unit) × Int × Int × Int × Bool × Unit) × List (Int × (Int × (Int × Int × Int × Int × Int × Int × Int × Int × Unit) × Int × Unit) × Int × Bool × Bool × Unit) × List (Int × ByteArray ×
  Int × Bool × Unit) × Int × List (Bool × Int × Int × Unit) × Unit) × Unit) => x.fst) x.fst)) (Ty.zero (Ty.sl DialT)))) : Int)) ∧ Wr (Bool.true = Bool.true) ∧ bcase (Decidable.decide ((List.getD (Option.getD (Option.map
  (fun (x : (List (ByteArray × List (List (Int × (Int × Int × Int × Int × Int × Int × Int × Int × Unit) × Int × Unit)) × Unit) × List ((Int × (Int × Int × Int × Int × Int × Int × Int × Int × Unit) × Int × Unit) × List Int
  × Unit) × Int × List Int × Unit) × Int × List ((Int × (Int × Int × Int × Int × Int × Int × Int × Int × Unit) × Int × Unit) × Int × Int × Int × Bool × Unit) × List (Int × (Int × (Int × Int × Int × Int × Int × Int × Int ×
  Int × Unit) × Int × Unit) × Int × Bool × Bool × Unit) × List (Int × ByteArray × Int × Bool × Unit) × Int × List (Bool × Int × Int × Unit) × Unit) => x.snd.snd.snd.fst) (Option.map (fun (x : ((List (ByteArray × List
  (List (Int × (Int × Int × Int × Int × Int × Int × Int × Int × Unit) × Int × Unit)) × Unit) × List ((Int × (Int × Int × Int × Int × Int × Int × Int × Int × Unit) × Int × Unit) × List Int × Unit) × Int × List Int × Unit)
  × Int × List ((Int × (Int × Int × Int × Int × Int × Int × Int × Int × Unit) × Int × Unit) × Int × Int × Int × Bool × Unit) × List (Int × (Int × (Int × Int × Int × Int × Int × Int × Int × Int × Unit) × Int × Unit) × Int
  × Bool × Bool × Unit) × List (Int × ByteArray × Int × Bool × Unit) × Int × List (Bool × Int × Int × Unit) × Unit) × Unit) => x.fst) x.fst)) (Ty.zero (Ty.sl DialT))) (Int.toNat x_1) (Ty.zero DialT)).fst = x.snd.fst))
  ((x_1, ()) = (ixD (glW x.fst).snd.snd.snd.fst x.snd.fst, ())) (Wr (IdxI (byIs x.snd.fst) (Option.getD (Option.map (fun (x : (List (ByteArray × List (List (Int × (Int × Int × Int × Int × Int × Int × Int × Int × Unit) ×
  Int × Unit)) × Unit) × List ((Int × (Int × Int × Int × Int × Int × Int × Int × Int × Unit) × Int × Unit) × List Int × Unit) × Int × List Int × Unit) × Int × List ((Int × (Int × Int × Int × Int × Int × Int × Int × Int ×
  Unit) × Int × Unit) × Int × Int × Int × Bool × Unit) × List (Int × (Int × (Int × Int × Int × Int × Int × Int × Int × Int × Unit) × Int × Unit) × Int × Bool × Bool × Unit) × List (Int × ByteArray × Int × Bool × Unit) ×
  Int × List (Bool × Int × Int × Unit) × Unit) => x.snd.snd.snd.fst) (Option.map (fun (x : ((List (ByteArray × List (List (Int × (Int × Int × Int × Int × Int × Int × Int × Int × Unit) × Int × Unit)) × Unit) × List ((Int ×
  (Int × Int × Int × Int × Int × Int × Int × Int × Unit) × Int × Unit) × List Int × Unit) × Int × List Int × Unit) × Int × List ((Int × (Int × Int × Int × Int × Int × Int × Int × Int × Unit) × Int × Unit) × Int × Int ×
  Int × Bool × Unit) × List (Int × (Int × (Int × Int × Int × Int × Int × Int × Int × Int × Unit) × Int × Unit) × Int × Bool × Bool × Unit) × List (Int × ByteArray × Int × Bool × Unit) × Int × List (Bool × Int × Int ×
  Unit) × Unit) × Unit) => x.fst) x.fst)) (Ty.zero (Ty.sl DialT))) (IntKind.wrap IntKind.i64 (x_1 + (1 : Int)))) ∧ Wr (List.length (Option.getD (Option.map (fun (x : (List (ByteArray × List (List (Int × (Int × Int × Int ×
  Int × Int × Int × Int × Int × Unit) × Int × Unit)) × Unit) × List ((Int × (Int × Int × Int × Int × Int × Int × Int × Int × Unit) × Int × Unit) × List Int × Unit) × Int × List Int × Unit) × Int × List ((Int × (Int × Int
  × Int × Int × Int × Int × Int × Int × Unit) × Int × Unit) × Int × Int × Int × Bool × Unit) × List (Int × (Int × (Int × Int × Int × Int × Int × Int × Int × Int × Unit) × Int × Unit) × Int × Bool × Bool × Unit) × List
  (Int × ByteArray × Int × Bool × Unit) × Int × List (Bool × Int × Int × Unit) × Unit) => x.snd.snd.snd.fst) (Option.map (fun (x : ((List (ByteArray × List (List (Int × (Int × Int × Int × Int × Int × Int × Int × Int ×
  Unit) × Int × Unit)) × Unit) × List ((Int × (Int × Int × Int × Int × Int × Int × Int × Int × Unit) × Int × Unit) × List Int × Unit) × Int × List Int × Unit) × Int × List ((Int × (Int × Int × Int × Int × Int × Int × Int
  × Int × Unit) × Int × Unit) × Int × Int × Int × Bool × Unit) × List (Int × (Int × (Int × Int × Int × Int × Int × Int × Int × Int × Unit) × Int × Unit) × Int × Bool × Bool × Unit) × List (Int × ByteArray × Int × Bool ×
  Unit) × Int × List (Bool × Int × Int × Unit) × Unit) × Unit) => x.fst) x.fst)) (Ty.zero (Ty.sl DialT))) - Int.toNat (IntKind.wrap IntKind.i64 (x_1 + (1 : Int))) < List.length (Option.getD (Option.map (fun (x : (List
  (ByteArray × List (List (Int × (Int × Int × Int × Int × Int × Int × Int × Int × Unit) × Int × Unit)) × Unit) × List ((Int × (Int × Int × Int × Int × Int × Int × Int × Int × Unit) × Int × Unit) × List Int × Unit) × Int ×
  List Int × Unit) × Int × List ((Int × (Int × Int × Int × Int × Int × Int × Int × Int × Unit) × Int × Unit) × Int × Int × Int × Bool × Unit) × List (Int × (Int × (Int × Int × Int × Int × Int × Int × Int × Int × Unit) ×
  Int × Unit) × Int × Bool × Bool × Unit) × List (Int × ByteArray × Int × Bool × Unit) × Int × List (Bool × Int × Int × Unit) × Unit) => x.snd.snd.snd.fst) (Option.map (fun (x : ((List (ByteArray × List (List (Int × (Int
  × Int × Int × Int × Int × Int × Int × Int × Unit) × Int × Unit)) × Unit) × List ((Int × (Int × Int × Int × Int × Int × Int × Int × Int × Unit) × Int × Unit) × List Int × Unit) × Int × List Int × Unit) × Int × List ((Int
  × (Int × Int × Int × Int × Int × Int × Int × Int × Unit) × Int × Unit) × Int × Int × Int × Bool × Unit) × List (Int × (Int × (Int × Int × Int × Int × Int × Int × Int × Int × Unit) × Int × Unit) × Int × Bool × Bool ×
  Unit) × List (Int × ByteArray × Int × Bool × Unit) × Int × List (Bool × Int × Int × Unit) × Unit) × Unit) => x.fst) x.fst)) (Ty.zero (Ty.sl DialT))) - Int.toNat x_1) ∧ Wr (IntKind.wrap IntKind.i64 (x_1 + (1 : Int)) =
  IntKind.wrap IntKind.i64 (x_1 + (1 : Int))) ∧ Wr (Option.getD (Option.map (fun (x : (List (ByteArray × List (List (Int × (Int × Int × Int × Int × Int × Int × Int × Int × Unit) × Int × Unit)) × Unit) × List ((Int × (Int
  × Int × Int × Int × Int × Int × Int × Int × Unit) × Int × Unit) × List Int × Unit) × Int × List Int × Unit) × Int × List ((Int × (Int × Int × Int × Int × Int × Int × Int × Int × Unit) × Int × Unit) × Int × Int × Int ×
  Bool × Unit) × List (Int × (Int × (Int × Int × Int × Int × Int × Int × Int × Int × Unit) × Int × Unit) × Int × Bool × Bool × Unit) × List (Int × ByteArray × Int × Bool × Unit) × Int × List (Bool × Int × Int × Unit) ×
  Unit) => x.snd.snd.snd.fst) (Option.map (fun (x : ((List (ByteArray × List (List (Int × (Int × Int × Int × Int × Int × Int × Int × Int × Unit) × Int × Unit)) × Unit) × List ((Int × (Int × Int × Int × Int × Int × Int ×
  Int × Int × Unit) × Int × Unit) × List Int × Unit) × Int × List Int × Unit) × Int × List ((Int × (Int × Int × Int × Int × Int × Int × Int × Int × Unit) × Int × Unit) × Int × Int × Int × Bool × Unit) × List (Int × (Int ×
  (Int × Int × Int × Int × Int × Int × Int × Int × Unit) × Int × Unit) × Int × Bool × Bool × Unit) × List (Int × ByteArray × Int × Bool × Unit) × Int × List (Bool × Int × Int × Unit) × Unit) × Unit) => x.fst) x.fst))
  (Ty.zero (Ty.sl DialT)) = Option.getD (Option.map (fun (x : (List (ByteArray × List (List (Int × (Int × Int × Int × Int × Int × Int × Int × Int × Unit) × Int × Unit)) × Unit) × List ((Int × (Int × Int × Int × Int × Int
  × Int × Int × Int × Unit) × Int × Unit) × List Int × Unit) × Int × List Int × Unit) × Int × List ((Int × (Int × Int × Int × Int × Int × Int × Int × Int × Unit) × Int × Unit) × Int × Int × Int × Bool × Unit) × List (Int
  × (Int × (Int × Int × Int × Int × Int × Int × Int × Int × Unit) × Int × Unit) × Int × Bool × Bool × Unit) × List (Int × ByteArray × Int × Bool × Unit) × Int × List (Bool × Int × Int × Unit) × Unit) => x.snd.snd.snd.fst)
  (Option.map (fun (x : ((List (ByteArray × List (List (Int × (Int × Int × Int × Int × Int × Int × Int × Int × Unit) × Int × Unit)) × Unit) × List ((Int × (Int × Int × Int × Int × Int × Int × Int × Int × Unit) × Int ×
  Unit) × List Int × Unit) × Int × List Int × Unit) × Int × List ((Int × (Int × Int × Int × Int × Int × Int × Int × Int × Unit) × Int × Unit) × Int × Int × Int × Bool × Unit) × List (Int × (Int × (Int × Int × Int × Int ×
  Int × Int × Int × Int × Unit) × Int × Unit) × Int × Bool × Bool × Unit) × List (Int × ByteArray × Int × Bool × Unit) × Int × List (Bool × Int × Int × Unit) × Unit) × Unit) => x.fst) x.fst)) (Ty.zero (Ty.sl DialT))) ∧ Wr
  (Option.getD (Option.map (fun (x : (List (ByteArray × List (List (Int × (Int × Int × Int × Int × Int × Int × Int × Int × Unit) × Int × Unit)) × Unit) × List ((Int × (Int × Int × Int × Int × Int × Int × Int × Int × Unit)
  × Int × Unit) × List Int × Unit) × Int × List Int × Unit) × Int × List ((Int × (Int × Int × Int × Int × Int × Int × Int × Int × Unit) × Int × Unit) × Int × Int × Int × Bool × Unit) × List (Int × (Int × (Int × Int × Int
  × Int × Int × Int × Int × Int × Unit) × Int × Unit) × Int × Bool × Bool × Unit) × List (Int × ByteArray × Int × Bool × Unit) × Int × List (Bool × Int × Int × Unit) × Unit) => x.snd.snd.snd.fst) (Option.map (fun (x :
  ((List (ByteArray × List (List (Int × (Int × Int × Int × Int × Int × Int × Int × Int × Unit) × Int × Unit)) × Unit) × List ((Int × (Int × Int × Int × Int × Int × Int × Int × Int × Unit) × Int × Unit) × List Int × Unit)
  × Int × List Int × Unit) × Int × List ((Int × (Int × Int × Int × Int × Int × Int × Int × Int × Unit) × Int × Unit) × Int × Int × Int × Bool × Unit) × List (Int × (Int × (Int × Int × Int × Int × Int × Int × Int × Int ×
  Unit) × Int × Unit) × Int × Bool × Bool × Unit) × List (Int × ByteArray × Int × Bool × Unit) × Int × List (Bool × Int × Int × Unit) × Unit) × Unit) => x.fst) x.fst)) (Ty.zero (Ty.sl DialT)) = Option.getD (Option.map
  (fun (x : (List (ByteArray × List (List (Int × (Int × Int × Int × Int × Int × Int × Int × Int × Unit) × Int × Unit)) × Unit) × List ((Int × (Int × Int × Int × Int × Int × Int × Int × Int × Unit) × Int × Unit) × List Int
  × Unit) × Int × List Int × Unit) × Int × List ((Int × (Int × Int × Int × Int × Int × Int × Int × Int × Unit) × Int × Unit) × Int × Int × Int × Bool × Unit) × List (Int × (Int × (Int × Int × Int × Int × Int × Int × Int ×
  Int × Unit) × Int × Unit) × Int × Bool × Bool × Unit) × List (Int × ByteArray × Int × Bool × Unit) × Int × List (Bool × Int × Int × Unit) × Unit) => x.snd.snd.snd.fst) (Option.map (fun (x : ((List (ByteArray × List
  (List (Int × (Int × Int × Int × Int × Int × Int × Int × Int × Unit) × Int × Unit)) × Unit) × List ((Int × (Int × Int × Int × Int × Int × Int × Int × Int × Unit) × Int × Unit) × List Int × Unit) × Int × List Int × Unit)
  × Int × List ((Int × (Int × Int × Int × Int × Int × Int × Int × Int × Unit) × Int × Unit) × Int × Int × Int × Bool × Unit) × List (Int × (Int × (Int × Int × Int × Int × Int × Int × Int × Int × Unit) × Int × Unit) × Int
  × Bool × Bool × Unit) × List (Int × ByteArray × Int × Bool × Unit) × Int × List (Bool × Int × Int × Unit) × Unit) × Unit) => x.fst) x.fst)) (Ty.zero (Ty.sl DialT))) ∧ Wr ((↑(List.length (Option.getD (Option.map (fun (x
  : (List (ByteArray × List (List (Int × (Int × Int × Int × Int × Int × Int × Int × Int × Unit) × Int × Unit)) × Unit) × List ((Int × (Int × Int × Int × Int × Int × Int × Int × Int × Unit) × Int × Unit) × List Int × Unit)
  × Int × List Int × Unit) × Int × List ((Int × (Int × Int × Int × Int × Int × Int × Int × Int × Unit) × Int × Unit) × Int × Int × Int × Bool × Unit) × List (Int × (Int × (Int × Int × Int × Int × Int × Int × Int × Int ×
  Unit) × Int × Unit) × Int × Bool × Bool × Unit) × List (Int × ByteArray × Int × Bool × Unit) × Int × List (Bool × Int × Int × Unit) × Unit) => x.snd.snd.snd.fst) (Option.map (fun (x : ((List (ByteArray × List (List (Int
  × (Int × Int × Int × Int × Int × Int × Int × Int × Unit) × Int × Unit)) × Unit) × List ((Int × (Int × Int × Int × Int × Int × Int × Int × Int × Unit) × Int × Unit) × List Int × Unit) × Int × List Int × Unit) × Int ×
  List ((Int × (Int × Int × Int × Int × Int × Int × Int × Int × Unit) × Int × Unit) × Int × Int × Int × Bool × Unit) × List (Int × (Int × (Int × Int × Int × Int × Int × Int × Int × Int × Unit) × Int × Unit) × Int × Bool ×
  Bool × Unit) × List (Int × ByteArray × Int × Bool × Unit) × Int × List (Bool × Int × Int × Unit) × Unit) × Unit) => x.fst) x.fst)) (Ty.zero (Ty.sl DialT)))) : Int) = (↑(List.length (Option.getD (Option.map (fun (x :
  (List (ByteArray × List (List (Int × (Int × Int × Int × Int × Int × Int × Int × Int × Unit) × Int × Unit)) × Unit) × List ((Int × (Int × Int × Int × Int × Int × Int × Int × Int × Unit) × Int × Unit) × List Int × Unit) ×
  Int × List Int × Unit) × Int × List ((Int × (Int × Int × Int × Int × Int × Int × Int × Int × Unit) × Int × Unit) × Int × Int × Int × Bool × Unit) × List (Int × (Int × (Int × Int × Int × Int × Int × Int × Int × Int ×
  Unit) × Int × Unit) × Int × Bool × Bool × Unit) × List (Int × ByteArray × Int × Bool × Unit) × Int × List (Bool × Int × Int × Unit) × Unit) => x.snd.snd.snd.fst) (Option.map (fun (x : ((List (ByteArray × List (List (Int
  × (Int × Int × Int × Int × Int × Int × Int × Int × Unit) × Int × Unit)) × Unit) × List ((Int × (Int × Int × Int × Int × Int × Int × Int × Int × Unit) × Int × Unit) × List Int × Unit) × Int × List Int × Unit) × Int ×
  List ((Int × (Int × Int × Int × Int × Int × Int × Int × Int × Unit) × Int × Unit) × Int × Int × Int × Bool × Unit) × List (Int × (Int × (Int × Int × Int × Int × Int × Int × Int × Int × Unit) × Int × Unit) × Int × Bool ×
  Bool × Unit) × List (Int × ByteArray × Int × Bool × Unit) × Int × List (Bool × Int × Int × Unit) × Unit) × Unit) => x.fst) x.fst)) (Ty.zero (Ty.sl DialT)))) : Int)) ∧ Wr (x.snd.fst = x.snd.fst))) (((-1 : Int), ()) =
  (ixD (glW x.fst).snd.snd.snd.fst x.snd.fst, ()))) := by kernel_rfl
theorem v34_eq : vcFn g34 300 Tryd.f34 cReadyP = ( ∀ (x : Option (((List (ByteArray × List (List (Int × (Int × Int × Int × Int × Int × Int × Int × Int × Unit) × Int × Unit)) × Unit) × List ((Int × (Int × Int × Int × Int × Int × Int × Int × Int × Unit) × Int × Unit) ×
  List Int × Unit) × Int × List Int × Unit) × Int × List ((Int × (Int × Int × Int × Int × Int × Int × Int × Int × Unit) × Int × Unit) × Int × Int × Int × Bool × Unit) × List (Int × (Int × (Int × Int × Int × Int × Int ×
  Int × Int × Int × Unit) × Int × Unit) × Int × Bool × Bool × Unit) × List (Int × ByteArray × Int × Bool × Unit) × Int × List (Bool × Int × Int × Unit) × Unit) × Unit) × Int × Unit), Wr (okG x.fst = Bool.true) → Wr (okG
  x.fst = Bool.true) ∧ Wr ((!Decidable.decide (ixD (glW x.fst).snd.snd.snd.fst x.snd.fst < (0 : Int))) = Bool.true → Option.isSome x.fst = Bool.true) ∧ Wr ((!Decidable.decide (ixD (glW x.fst).snd.snd.snd.fst x.snd.fst <
  (0 : Int))) = Bool.true → Option.isSome x.fst = Bool.true) ∧ Wr ((!Decidable.decide (ixD (glW x.fst).snd.snd.snd.fst x.snd.fst < (0 : Int))) = Bool.true → Option.isSome (Option.map (fun (x : ((List (ByteArray × List
  (List (Int × (Int × Int × Int × Int × Int × Int × Int × Int × Unit) × Int × Unit)) × Unit) × List ((Int × (Int × Int × Int × Int × Int × Int × Int × Int × Unit) × Int × Unit) × List Int × Unit) × Int × List Int × Unit)
  × Int × List ((Int × (Int × Int × Int × Int × Int × Int × Int × Int × Unit) × Int × Unit) × Int × Int × Int × Bool × Unit) × List (Int × (Int × (Int × Int × Int × Int × Int × Int × Int × Int × Unit) × Int × Unit) × Int
  × Bool × Bool × Unit) × List (Int × ByteArray × Int × Bool × Unit) × Int × List (Bool × Int × Int × Unit) × Unit) × Unit) => x.fst) x.fst) = Bool.true) ∧ Wr ((!Decidable.decide (ixD (glW x.fst).snd.snd.snd.fst x.snd.fst
  < (0 : Int))) = Bool.true → Option.isSome (Option.map (fun (x : (List (ByteArray × List (List (Int × (Int × Int × Int × Int × Int × Int × Int × Int × Unit) × Int × Unit)) × Unit) × List ((Int × (Int × Int × Int × Int ×
  Int × Int × Int × Int × Unit) × Int × Unit) × List Int × Unit) × Int × List Int × Unit) × Int × List ((Int × (Int × Int × Int × Int × Int × Int × Int × Int × Unit) × Int × Unit) × Int × Int × Int × Bool × Unit) × List
  (Int × (Int × (Int × Int × Int × Int × Int × Int × Int × Int × Unit) × Int × Unit) × Int × Bool × Bool × Unit) × List (Int × ByteArray × Int × Bool × Unit) × Int × List (Bool × Int × Int × Unit) × Unit) =>
  x.snd.snd.snd.fst) (Option.map (fun (x : ((List (ByteArray × List (List (Int × (Int × Int × Int × Int × Int × Int × Int × Int × Unit) × Int × Unit)) × Unit) × List ((Int × (Int × Int × Int × Int × Int × Int × Int × Int
  × Unit) × Int × Unit) × List Int × Unit) × Int × List Int × Unit) × Int × List ((Int × (Int × Int × Int × Int × Int × Int × Int × Int × Unit) × Int × Unit) × Int × Int × Int × Bool × Unit) × List (Int × (Int × (Int ×
  Int × Int × Int × Int × Int × Int × Int × Unit) × Int × Unit) × Int × Bool × Bool × Unit) × List (Int × ByteArray × Int × Bool × Unit) × Int × List (Bool × Int × Int × Unit) × Unit) × Unit) => x.fst) x.fst)) =
  Bool.true) ∧ Wr ((!Decidable.decide (ixD (glW x.fst).snd.snd.snd.fst x.snd.fst < (0 : Int))) = Bool.true → (0 : Int) ≤ ixD (glW x.fst).snd.snd.snd.fst x.snd.fst) ∧ Wr ((!Decidable.decide (ixD (glW x.fst).snd.snd.snd.fst
  x.snd.fst < (0 : Int))) = Bool.true → ixD (glW x.fst).snd.snd.snd.fst x.snd.fst < (↑(List.length (Option.getD (Option.map (fun (x : (List (ByteArray × List (List (Int × (Int × Int × Int × Int × Int × Int × Int × Int ×
  Unit) × Int × Unit)) × Unit) × List ((Int × (Int × Int × Int × Int × Int × Int × Int × Int × Unit) × Int × Unit) × List Int × Unit) × Int × List Int × Unit) × Int × List ((Int × (Int × Int × Int × Int × Int × Int × Int
  × Int × Unit) × Int × Unit) × Int × Int × Int × Bool × Unit) × List (Int × (Int × (Int × Int × Int × Int × Int × Int × Int × Int × Unit) × Int × Unit) × Int × Bool × Bool × Unit) × List (Int × ByteArray × Int × Bool ×
  Unit) × Int × List (Bool × Int × Int × Unit) × Unit) => x.snd.snd.snd.fst) (Option.map (fun (x : ((List (ByteArray × List (List (Int × (Int × Int × Int × Int × Int × Int × Int × Int × Unit) × Int × Unit)) × Unit) × List
  ((Int × (Int × Int × Int × Int × Int × Int × Int × Int × Unit) × Int × Unit) × List Int × Unit) × Int × List Int × Unit) × Int × List ((Int × (Int × Int × Int × Int × Int × Int × Int × Int × Unit) × Int × Unit) × Int ×
  Int × Int × Bool × Unit) × List (Int × (Int × (Int × Int × Int × Int × Int × Int × Int × Int × Unit) × Int × Unit) × Int × Bool × Bool × Unit) × List (Int × ByteArray × Int × Bool × Unit) × Int × List (Bool × Int × Int
  × Unit) × Unit) × Unit) => x.fst) x.fst)) (Ty.zero (Ty.sl DialT)))) : Int)) ∧ Wr ((!Decidable.decide (ixD (glW x.fst).snd.snd.snd.fst x.snd.fst < (0 : Int))) = Bool.true → Bool.true = Bool.true) ∧ Wr ((!Decidable.decide
  (ixD (glW x.fst).snd.snd.snd.fst x.snd.fst < (0 : Int))) = Bool.true → Bool.true = Bool.true) ∧ bcase (Decidable.decide (ixD (glW x.fst).snd.snd.snd.fst x.snd.fst < (0 : Int)) || (List.getD (Option.getD (Option.map (fun
  (x : (List (ByteArray × List (List (Int × (Int × Int × Int × Int × Int × Int × Int × Int × Unit) × Int × Unit)) × Unit) × List ((Int × (Int × Int × Int × Int × Int × Int × Int × Int × Unit) × Int × Unit) × List Int ×
  Unit) × Int × List Int × Unit) × Int × List ((Int × (Int × Int × Int × Int × Int × Int × Int × Int × Unit) × Int × Unit) × Int × Int × Int × Bool × Unit) × List (Int × (Int × (Int × Int × Int × Int × Int × Int × Int ×
  Int × Unit) × Int × Unit) × Int × Bool × Bool × Unit) × List (Int × ByteArray × Int × Bool × Unit) × Int × List (Bool × Int × Int × Unit) × Unit) => x.snd.snd.snd.fst) (Option.map (fun (x : ((List (ByteArray × List
  (List (Int × (Int × Int × Int × Int × Int × Int × Int × Int × Unit) × Int × Unit)) × Unit) × List ((Int × (Int × Int × Int × Int × Int × Int × Int × Int × Unit) × Int × Unit) × List Int × Unit) × Int × List Int × Unit)
  × Int × List ((Int × (Int × Int × Int × Int × Int × Int × Int × Int × Unit) × Int × Unit) × Int × Int × Int × Bool × Unit) × List (Int × (Int × (Int × Int × Int × Int × Int × Int × Int × Int × Unit) × Int × Unit) × Int
  × Bool × Bool × Unit) × List (Int × ByteArray × Int × Bool × Unit) × Int × List (Bool × Int × Int × Unit) × Unit) × Unit) => x.fst) x.fst)) (Ty.zero (Ty.sl DialT))) (Int.toNat (ixD (glW x.fst).snd.snd.snd.fst
  x.snd.fst)) (Ty.zero DialT)).snd.snd.snd.snd.fst) ((Bool.false, ()) = (readyW (glW x.fst) x.snd.fst, ())) (Wr (Option.isSome x.fst = Bool.true) ∧ Wr (Option.isSome x.fst = Bool.true) ∧ Wr (Option.isSome (Option.map (fun
  (x : ((List (ByteArray × List (List (Int × (Int × Int × Int × Int × Int × Int × Int × Int × Unit) × Int × Unit)) × Unit) × List ((Int × (Int × Int × Int × Int × Int × Int × Int × Int × Unit) × Int × Unit) × List Int ×
  Unit) × Int × List Int × Unit) × Int × List ((Int × (Int × Int × Int × Int × Int × Int × Int × Int × Unit) × Int × Unit) × Int × Int × Int × Bool × Unit) × List (Int × (Int × (Int × Int × Int × Int × Int × Int × Int ×
  Int × Unit) × Int × Unit) × Int × Bool × Bool × Unit) × List (Int × ByteArray × Int × Bool × Unit) × Int × List (Bool × Int × Int × Unit) × Unit) × Unit) => x.fst) x.fst) = Bool.true) ∧ Wr (Option.isSome (Option.map
  (fun (x : (List (ByteArray × List (List (Int × (Int × Int × Int × Int × Int × Int × Int × Int × Unit) × Int × Unit)) × Unit) × List ((Int × (Int × Int × Int × Int × Int × Int × Int × Int × Unit) × Int × Unit) × List Int
  × Unit) × Int × List Int × Unit) × Int × List ((Int × (Int × Int × Int × Int × Int × Int × Int × Int × Unit) × Int × Unit) × Int × Int × Int × Bool × Unit) × List (Int × (Int × (Int × Int × Int × Int × Int × Int × Int ×
  Int × Unit) × Int × Unit) × Int × Bool × Bool × Unit) × List (Int × ByteArray × Int × Bool × Unit) × Int × List (Bool × Int × Int × Unit) × Unit) => x.snd.snd.snd.fst) (Option.map (fun (x : ((List (ByteArray × List
  (List (Int × (Int × Int × Int × Int × Int × Int × Int × Int × Unit) × Int × Unit)) × Unit) × List ((Int × (Int × Int × Int × Int × Int × Int × Int × Int × Unit) × Int × Unit) × List Int × Unit) × Int × List Int × Unit)
  × Int × List ((Int × (Int × Int × Int × Int × Int × Int × Int × Int × Unit) × Int × Unit) × Int × Int × Int × Bool × Unit) × List (Int × (Int × (Int × Int × Int × Int × Int × Int × Int × Int × Unit) × Int × Unit) × Int
  × Bool × Bool × Unit) × List (Int × ByteArray × Int × Bool × Unit) × Int × List (Bool × Int × Int × Unit) × Unit) × Unit) => x.fst) x.fst)) = Bool.true) ∧ Wr ((0 : Int) ≤ ixD (glW x.fst).snd.snd.snd.fst x.snd.fst) ∧ Wr
  (ixD (glW x.fst).snd.snd.snd.fst x.snd.fst < (↑(List.length (Option.getD (Option.map (fun (x : (List (ByteArray × List (List (Int × (Int × Int × Int × Int × Int × Int × Int × Int × Unit) × Int × Unit)) × Unit) × List
  ((Int × (Int × Int × Int × Int × Int × Int × Int × Int × Unit) × Int × Unit) × List Int × Unit) × Int × List Int × Unit) × Int × List ((Int × (Int × Int × Int × Int × Int × Int × Int × Int × Unit) × Int × Unit) × Int ×
  Int × Int × Bool × Unit) × List (Int × (Int × (Int × Int × Int × Int × Int × Int × Int × Int × Unit) × Int × Unit) × Int × Bool × Bool × Unit) × List (Int × ByteArray × Int × Bool × Unit) × Int × List (Bool × Int × Int
  × Unit) × Unit) => x.snd.snd.snd.fst) (Option.map (fun (x : ((List (ByteArray × List (List (Int × (Int × Int × Int × Int × Int × Int × Int × Int × Unit) × Int × Unit)) × Unit) × List ((Int × (Int × Int × Int × Int × Int
  × Int × Int × Int × Unit) × Int × Unit) × List Int × Unit) × Int × List Int × Unit) × Int × List ((Int × (Int × Int × Int × Int × Int × Int × Int × Int × Unit) × Int × Unit) × Int × Int × Int × Bool × Unit) × List (Int
  × (Int × (Int × Int × Int × Int × Int × Int × Int × Int × Unit) × Int × Unit) × Int × Bool × Bool × Unit) × List (Int × ByteArray × Int × Bool × Unit) × Int × List (Bool × Int × Int × Unit) × Unit) × Unit) => x.fst)
  x.fst)) (Ty.zero (Ty.sl DialT)))) : Int)) ∧ Wr (Bool.true = Bool.true) ∧ bcase (Decidable.decide ((List.getD (Option.getD (Option.map (fun (x : (List (ByteArray × List (List (Int × (Int × Int × Int × Int × Int × Int ×
  Int × Int × Unit) × Int × Unit)) × Unit) × List ((Int × (Int × Int × Int × Int × Int × Int × Int × Int × Unit) × Int × Unit) × List Int × Unit) × Int × List Int × Unit) × Int × List ((Int × (Int × Int × Int × Int × Int
  × Int × Int × Int × Unit) × Int × Unit) × Int × Int × Int × Bool × Unit) × List (Int × (Int × (Int × Int × Int × Int × Int × Int × Int × Int × Unit) × Int × Unit) × Int × Bool × Bool × Unit) × List (Int × ByteArray ×
  Int × Bool × Unit) × Int × List (Bool × Int × Int × Unit) × Unit) => x.snd.snd.snd.fst) (Option.map (fun (x : ((List (ByteArray × List (List (Int × (Int × Int × Int × Int × Int × Int × Int × Int × Unit) × Int × Unit)) ×
  Unit) × List ((Int × (Int × Int × Int × Int × Int × Int × Int × Int × Unit) × Int × Unit) × List Int × Unit) × Int × List Int × Unit) × Int × List ((Int × (Int × Int × Int × Int × Int × Int × Int × Int × Unit) × Int ×
  Unit) × Int × Int × Int × Bool × Unit) × List (Int × (Int × (Int × Int × Int × Int × Int × Int × Int × Int × Unit) × Int × Unit) × Int × Bool × Bool × Unit) × List (Int × ByteArray × Int × Bool × Unit) × Int × List
  (Bool × Int × Int × Unit) × Unit) × Unit) => x.fst) x.fst)) (Ty.zero (Ty.sl DialT))) (Int.toNat (ixD (glW x.fst).snd.snd.snd.fst x.snd.fst)) (Ty.zero DialT)).snd.snd.fst = (0 : Int))) (bcase (Decidable.decide
  ((List.getD (Option.getD (Option.map (fun (x : (List (ByteArray × List (List (Int × (Int × Int × Int × Int × Int × Int × Int × Int × Unit) × Int × Unit)) × Unit) × List ((Int × (Int × Int × Int × Int × Int × Int × Int ×
  Int × Unit) × Int × Unit) × List Int × Unit) × Int × List Int × Unit) × Int × List ((Int × (Int × Int × Int × Int × Int × Int × Int × Int × Unit) × Int × Unit) × Int × Int × Int × Bool × Unit) × List (Int × (Int × (Int
  × Int × Int × Int × Int × Int × Int × Int × Unit) × Int × Unit) × Int × Bool × Bool × Unit) × List (Int × ByteArray × Int × Bool × Unit) × Int × List (Bool × Int × Int × Unit) × Unit) => x.snd.snd.snd.fst) (Option.map
  (fun (x : ((List (ByteArray × List (List (Int × (Int × Int × Int × Int × Int × Int × Int × Int × Unit) × Int × Unit)) × Unit) × List ((Int × (Int × Int × Int × Int × Int × Int × Int × Int × Unit) × Int × Unit) × List
  Int × Unit) × Int × List Int × Unit) × Int × List ((Int × (Int × Int × Int × Int × Int × Int × Int × Int × Unit) × Int × Unit) × Int × Int × Int × Bool × Unit) × List (Int × (Int × (Int × Int × Int × Int × Int × Int ×
  Int × Int × Unit) × Int × Unit) × Int × Bool × Bool × Unit) × List (Int × ByteArray × Int × Bool × Unit) × Int × List (Bool × Int × Int × Unit) × Unit) × Unit) => x.fst) x.fst)) (Ty.zero (Ty.sl DialT))) (Int.toNat (ixD
  (glW x.fst).snd.snd.snd.fst x.snd.fst)) (Ty.zero DialT)).snd.snd.fst = (0 : Int))) ((Bool.true, ()) = (readyW (glW x.fst) x.snd.fst, ())) (bcase (Decidable.decide ((List.getD (Option.getD (Option.map (fun (x : (List
  (ByteArray × List (List (Int × (Int × Int × Int × Int × Int × Int × Int × Int × Unit) × Int × Unit)) × Unit) × List ((Int × (Int × Int × Int × Int × Int × Int × Int × Int × Unit) × Int × Unit) × List Int × Unit) × Int ×
  List Int × Unit) × Int × List ((Int × (Int × Int × Int × Int × Int × Int × Int × Int × Unit) × Int × Unit) × Int × Int × Int × Bool × Unit) × List (Int × (Int × (Int × Int × Int × Int × Int × Int × Int × Int × Unit) ×
  Int × Unit) × Int × Bool × Bool × Unit) × List (Int × ByteArray × Int × Bool × Unit) × Int × List (Bool × Int × Int × Unit) × Unit) => x.snd.snd.snd.fst) (Option.map (fun (x : ((List (ByteArray × List (List (Int × (Int
  × Int × Int × Int × Int × Int × Int × Int × Unit) × Int × Unit)) × Unit) × List ((Int × (Int × Int × Int × Int × Int × Int × Int × Int × Unit) × Int × Unit) × List Int × Unit) × Int × List Int × Unit) × Int × List ((Int
  × (Int × Int × Int × Int × Int × Int × Int × Int × Unit) × Int × Unit) × Int × Int × Int × Bool × Unit) × List (Int × (Int × (Int × Int × Int × Int × Int × Int × Int × Int × Unit) × Int × Unit) × Int × Bool × Bool ×
  Unit) × List (Int × ByteArray × Int × Bool × Unit) × Int × List (Bool × Int × Int × Unit) × Unit) × Unit) => x.fst) x.fst)) (Ty.zero (Ty.sl DialT))) (Int.toNat (ixD (glW x.fst).snd.snd.snd.fst x.snd.fst)) (Ty.zero
  DialT)).snd.snd.fst = (2 : Int))) (((List.getD (Option.getD (Option.map (fun (x : (List (ByteArray × List (List (Int × (Int × Int × Int × Int × Int × Int × Int × Int × Unit) × Int × Unit)) × Unit) × List ((Int × (Int ×
  Int × Int × Int × Int × Int × Int × Int × Unit) × Int × Unit) × List Int × Unit) × Int × List Int × Unit) × Int × List ((Int × (Int × Int × Int × Int × Int × Int × Int × Int × Unit) × Int × Unit) × Int × Int × Int ×
  Bool × Unit) × List (Int × (Int × (Int × Int × Int × Int × Int × Int × Int × Int × Unit) × Int × Unit) × Int × Bool × Bool × Unit) × List (Int × ByteArray × Int × Bool × Unit) × Int × List (Bool × Int × Int × Unit) ×
  Unit) => x.snd.snd.snd.fst) (Option.map (fun (x : ((List (ByteArray × List (List (Int × (Int × Int × Int × Int × Int × Int × Int × Int × Unit) × Int × Unit)) × Unit) × List ((Int × (Int × Int × Int × Int × Int × Int ×
  Int × Int × Unit) × Int × Unit) × List Int × Unit) × Int × List Int × Unit) × Int × List ((Int × (Int × Int × Int × Int × Int × Int × Int × Int × Unit) × Int × Unit) × Int × Int × Int × Bool × Unit) × List (Int × (Int ×
  (Int × Int × Int × Int × Int × Int × Int × Int × Unit) × Int × Unit) × Int × Bool × Bool × Unit) × List (Int × ByteArray × Int × Bool × Unit) × Int × List (Bool × Int × Int × Unit) × Unit) × Unit) => x.fst) x.fst))
  (Ty.zero (Ty.sl DialT))) (Int.toNat (ixD (glW x.fst).snd.snd.snd.fst x.snd.fst)) (Ty.zero DialT)).snd.snd.snd.fst, ()) = (readyW (glW x.fst) x.snd.fst, ())) ((Bool.false, ()) = (readyW (glW x.fst) x.snd.fst, ()))))
  (bcase (Decidable.decide ((List.getD (Option.getD (Option.map (fun (x : (List (ByteArray × List (List (Int × (Int × Int × Int × Int × Int × Int × Int × Int × Unit) × Int × Unit)) × Unit) × List ((Int × (Int × Int × Int
  × Int × Int × Int × Int × Int × Unit) × Int × Unit) × List Int × Unit) × Int × List Int × Unit) × Int × List ((Int × (Int × Int × Int × Int × Int × Int × Int × Int × Unit) × Int × Unit) × Int × Int × Int × Bool × Unit)
  × List (Int × (Int × (Int × Int × Int × Int × Int × Int × Int × Int × Unit) × Int × Unit) × Int × Bool × Bool × Unit) × List (Int × ByteArray × Int × Bool × Unit) × Int × List (Bool × Int × Int × Unit) × Unit) =>
  x.snd.snd.snd.fst) (Option.map (fun (x : ((List (ByteArray × List (List (Int × (Int × Int × Int × Int × Int × Int × Int × Int × Unit) × Int × Unit)) × Unit) × List ((Int × (Int × Int × Int × Int × Int × Int × Int × Int
  × Unit) × Int × Unit) × List Int × Unit) × Int × List Int × Unit) × Int × List ((Int × (Int × Int × Int × Int × Int × Int × Int × Int × Unit) × Int × Unit) × Int × Int × Int × Bool × Unit) × List (Int × (Int × (Int ×
  Int × Int × Int × Int × Int × Int × Int × Unit) × Int × Unit) × Int × Bool × Bool × Unit) × List (Int × ByteArray × Int × Bool × Unit) × Int × List (Bool × Int × Int × Unit) × Unit) × Unit) => x.fst) x.fst)) (Ty.zero
  (Ty.sl DialT))) (Int.toNat (ixD (glW x.fst).snd.snd.snd.fst x.snd.fst)) (Ty.zero DialT)).snd.snd.fst = (1 : Int))) ((Bool.true, ()) = (readyW (glW x.fst) x.snd.fst, ())) (bcase (Decidable.decide ((List.getD (Option.getD
  (Option.map (fun (x : (List (ByteArray × List (List (Int × (Int × Int × Int × Int × Int × Int × Int × Int × Unit) × Int × Unit)) × Unit) × List ((Int × (Int × Int × Int × Int × Int × Int × Int × Int × Unit) × Int ×
  Unit) × List Int × Unit) × Int × List Int × Unit) × Int × List ((Int × (Int × Int × Int × Int × Int × Int × Int × Int × Unit) × Int × Unit) × Int × Int × Int × Bool × Unit) × List (Int × (Int × (Int × Int × Int × Int ×
  Int × Int × Int × Int × Unit) × Int × Unit) × Int × Bool × Bool × Unit) × List (Int × ByteArray × Int × Bool × Unit) × Int × List (Bool × Int × Int × Unit) × Unit) => x.snd.snd.snd.fst) (Option.map (fun (x : ((List
  (ByteArray × List (List (Int × (Int × Int × Int × Int × Int × Int × Int × Int × Unit) × Int × Unit)) × Unit) × List ((Int × (Int × Int × Int × Int × Int × Int × Int × Int × Unit) × Int × Unit) × List Int × Unit) × Int ×
  List Int × Unit) × Int × List ((Int × (Int × Int × Int × Int × Int × Int × Int × Int × Unit) × Int × Unit) × Int × Int × Int × Bool × Unit) × List (Int × (Int × (Int × Int × Int × Int × Int × Int × Int × Int × Unit) ×
  Int × Unit) × Int × Bool × Bool × Unit) × List (Int × ByteArray × Int × Bool × Unit) × Int × List (Bool × Int × Int × Unit) × Unit) × Unit) => x.fst) x.fst)) (Ty.zero (Ty.sl DialT))) (Int.toNat (ixD (glW
  x.fst).snd.snd.snd.fst x.snd.fst)) (Ty.zero DialT)).snd.snd.fst = (2 : Int))) (((List.getD (Option.getD (Option.map (fun (x : (List (ByteArray × List (List (Int × (Int × Int × Int × Int × Int × Int × Int × Int × Unit) ×
  Int × Unit)) × Unit) × List ((Int × (Int × Int × Int × Int × Int × Int × Int × Int × Unit) × Int × Unit) × List Int × Unit) × Int × List Int × Unit) × Int × List ((Int × (Int × Int × Int × Int × Int × Int × Int × Int ×
  Unit) × Int × Unit) × Int × Int × Int × Bool × Unit) × List (Int × (Int × (Int × Int × Int × Int × Int × Int × Int × Int × Unit) × Int × Unit) × Int × Bool × Bool × Unit) × List (Int × ByteArray × Int × Bool × Unit) ×
  Int × List (Bool × Int × Int × Unit) × Unit) => x.snd.snd.snd.fst) (Option.map (fun (x : ((List (ByteArray × List (List (Int × (Int × Int × Int × Int × Int × Int × Int × Int × Unit) × Int × Unit)) × Unit) × List ((Int ×
  (Int × Int × Int × Int × Int × Int × Int × Int × Unit) × Int × Unit) × List Int × Unit) × Int × List Int × Unit) × Int × List ((Int × (Int × Int × Int × Int × Int × Int × Int × Int × Unit) × Int × Unit) × Int × Int ×
  Int × Bool × Unit) × List (Int × (Int × (Int × Int × Int × Int × Int × Int × Int × Int × Unit) × Int × Unit) × Int × Bool × Bool × Unit) × List (Int × ByteArray × Int × Bool × Unit) × Int × List (Bool × Int × Int ×
  Unit) × Unit) × Unit) => x.fst) x.fst)) (Ty.zero (Ty.sl DialT))) (Int.toNat (ixD (glW x.fst).snd.snd.snd.fst x.snd.fst)) (Ty.zero DialT)).snd.snd.snd.fst, ()) = (readyW (glW x.fst) x.snd.fst, ())) ((Bool.false, ()) =
  (readyW (glW x.fst) x.snd.fst, ())))))) := by kernel_rfl
theorem v12_eq : vcFn g12 300 Tryd.f12 cDial = ( ∀ (x : ((List (ByteArray × List (List (Int × (Int × Int × Int × Int × Int × Int × Int × Int × Unit) × Int × Unit)) × Unit) × List ((Int × (Int × Int × Int × Int × Int × Int × Int × Int × Unit) × Int × Unit) × List Int ×
  Unit) × Int × List Int × Unit) × Int × List ((Int × (Int × Int × Int × Int × Int × Int × Int × Int × Unit) × Int × Unit) × Int × Int × Int × Bool × Unit) × List (Int × (Int × (Int × Int × Int × Int × Int × Int × Int ×
  Int × Unit) × Int × Unit) × Int × Bool × Bool × Unit) × List (Int × ByteArray × Int × Bool × Unit) × Int × List (Bool × Int × Int × Unit) × Unit) × Int × (Int × (Int × Int × Int × Int × Int × Int × Int × Int × Unit) ×
  Int × Unit) × Unit), Wr (okW x.fst = Bool.true) → Wr (lenA (x.snd.snd.fst :: nilL (Int × (Int × Int × Int × Int × Int × Int × Int × Int × Unit) × Int × Unit)) = Bool.true) ∧ bcase (!Go.Ad.mayA (x.snd.snd.fst :: nilL
  (Int × (Int × Int × Int × Int × Int × Int × Int × Int × Unit) × Int × Unit))) ((x.fst, (20 : Int), ()) = (dialW x.fst x.snd.fst x.snd.snd.fst, dialE x.fst x.snd.fst x.snd.snd.fst, ())) (Wr (okG (Option.some (x.fst, ()))
  = Bool.true) ∧ bcase (Decidable.decide (ixD (glW (Option.some (x.fst, ()))).snd.snd.snd.fst x.snd.fst ≥ (0 : Int))) ((x.fst, (100 : Int), ()) = (dialW x.fst x.snd.fst x.snd.snd.fst, dialE x.fst x.snd.fst x.snd.snd.fst,
  ())) ((Wr (CntI (dlAd x.snd.snd.fst) x.fst.snd.snd.snd.fst (0 : Int) (0 : Int)) ∧ Wr ((0 : Int) = (0 : Int)) ∧ Wr ((0 : Int) = (0 : Int)) ∧ Wr (x.fst.snd.snd.snd.fst = x.fst.snd.snd.snd.fst) ∧ Wr (x.fst.snd.snd.snd.fst
  = x.fst.snd.snd.snd.fst) ∧ Wr ((↑(List.length x.fst.snd.snd.snd.fst) : Int) = (↑(List.length x.fst.snd.snd.snd.fst) : Int)) ∧ Wr (x.snd.snd.fst :: nilL (Int × (Int × Int × Int × Int × Int × Int × Int × Int × Unit) × Int
  × Unit) = x.snd.snd.fst :: nilL (Int × (Int × Int × Int × Int × Int × Int × Int × Int × Unit) × Int × Unit)) ∧ Wr (x.fst.fst.fst = x.fst.fst.fst) ∧ Wr (x.fst.fst.snd.fst = x.fst.fst.snd.fst) ∧ Wr (x.fst.fst.snd.snd.fst
  = x.fst.fst.snd.snd.fst) ∧ Wr (x.fst.fst.snd.snd.snd.fst = x.fst.fst.snd.snd.snd.fst) ∧ Wr (x.fst.snd.fst = x.fst.snd.fst) ∧ Wr (x.fst.snd.snd.fst = x.fst.snd.snd.fst) ∧ Wr (x.fst.snd.snd.snd.fst =
  x.fst.snd.snd.snd.fst) ∧ Wr (x.fst.snd.snd.snd.snd.fst = x.fst.snd.snd.snd.snd.fst) ∧ Wr (x.fst.snd.snd.snd.snd.snd.fst = x.fst.snd.snd.snd.snd.snd.fst) ∧ Wr (x.fst.snd.snd.snd.snd.snd.snd.fst =
  x.fst.snd.snd.snd.snd.snd.snd.fst) ∧ Wr ((0 : Int) = (0 : Int)) ∧ Wr ((0 : Int) = (0 : Int)) ∧ Wr ((0 : Int) = (0 : Int)) ∧ Wr (x.snd.snd.fst.fst = x.snd.snd.fst.fst) ∧ Wr (x.snd.snd.fst.snd.fst.fst =
  x.snd.snd.fst.snd.fst.fst) ∧ Wr (x.snd.snd.fst.snd.fst.snd.fst = x.snd.snd.fst.snd.fst.snd.fst) ∧ Wr (x.snd.snd.fst.snd.fst.snd.snd.fst = x.snd.snd.fst.snd.fst.snd.snd.fst) ∧ Wr (x.snd.snd.fst.snd.fst.snd.snd.snd.fst =
  x.snd.snd.fst.snd.fst.snd.snd.snd.fst) ∧ Wr (x.snd.snd.fst.snd.fst.snd.snd.snd.snd.fst = x.snd.snd.fst.snd.fst.snd.snd.snd.snd.fst) ∧ Wr (x.snd.snd.fst.snd.fst.snd.snd.snd.snd.snd.fst =
  x.snd.snd.fst.snd.fst.snd.snd.snd.snd.snd.fst) ∧ Wr (x.snd.snd.fst.snd.fst.snd.snd.snd.snd.snd.snd.fst = x.snd.snd.fst.snd.fst.snd.snd.snd.snd.snd.snd.fst) ∧ Wr (x.snd.snd.fst.snd.fst.snd.snd.snd.snd.snd.snd.snd.fst =
  x.snd.snd.fst.snd.fst.snd.snd.snd.snd.snd.snd.snd.fst) ∧ Wr (x.snd.snd.fst.snd.snd.fst = x.snd.snd.fst.snd.snd.fst) ∧ Wr (x.fst.fst.fst = x.fst.fst.fst) ∧ Wr (x.fst.fst.snd.fst = x.fst.fst.snd.fst) ∧ Wr
  (x.fst.fst.snd.snd.fst = x.fst.fst.snd.snd.fst) ∧ Wr (x.fst.fst.snd.snd.snd.fst = x.fst.fst.snd.snd.snd.fst) ∧ Wr (x.fst.snd.fst = x.fst.snd.fst) ∧ Wr (x.fst.snd.snd.fst = x.fst.snd.snd.fst) ∧ Wr (x.fst.snd.snd.snd.fst
  = x.fst.snd.snd.snd.fst) ∧ Wr (x.fst.snd.snd.snd.snd.fst = x.fst.snd.snd.snd.snd.fst) ∧ Wr (x.fst.snd.snd.snd.snd.snd.fst = x.fst.snd.snd.snd.snd.snd.fst) ∧ Wr (x.fst.snd.snd.snd.snd.snd.snd.fst =
  x.fst.snd.snd.snd.snd.snd.snd.fst)) ∧ ∀ (x_1 : Int × Int), Wr (CntI (dlAd x.snd.snd.fst) x.fst.snd.snd.snd.fst x_1.fst x_1.snd) → bcase (Decidable.decide (x_1.fst < (↑(List.length x.fst.snd.snd.snd.fst) : Int))) (Wr ((0
  : Int) ≤ x_1.fst) ∧ Wr (x_1.fst < (↑(List.length x.fst.snd.snd.snd.fst) : Int)) ∧ Wr (Bool.true = Bool.true) ∧ bcase (Ty.eqb (Ty.cons (Ty.int IntKind.i8) (Ty.cons (Ty.arr (8 : Nat) (Ty.int IntKind.u16)) (Ty.cons (Ty.int
  IntKind.i64) Ty.unit))) (List.getD x.fst.snd.snd.snd.fst (Int.toNat x_1.fst) (Ty.zero DialT)).snd.fst x.snd.snd.fst) (Wr (CntI (dlAd x.snd.snd.fst) x.fst.snd.snd.snd.fst (IntKind.wrap IntKind.i64 (x_1.fst + (1 : Int)))
  (IntKind.wrap IntKind.i64 (x_1.snd + (1 : Int)))) ∧ Wr (List.length x.fst.snd.snd.snd.fst - Int.toNat (IntKind.wrap IntKind.i64 (x_1.fst + (1 : Int))) < List.length x.fst.snd.snd.snd.fst - Int.toNat x_1.fst) ∧ Wr
  (IntKind.wrap IntKind.i64 (x_1.fst + (1 : Int)) = IntKind.wrap IntKind.i64 (x_1.fst + (1 : Int))) ∧ Wr (IntKind.wrap IntKind.i64 (x_1.snd + (1 : Int)) = IntKind.wrap IntKind.i64 (x_1.snd + (1 : Int))) ∧ Wr
  (x.fst.snd.snd.snd.fst = x.fst.snd.snd.snd.fst) ∧ Wr (x.fst.snd.snd.snd.fst = x.fst.snd.snd.snd.fst) ∧ Wr ((↑(List.length x.fst.snd.snd.snd.fst) : Int) = (↑(List.length x.fst.snd.snd.snd.fst) : Int)) ∧ Wr (x.snd.snd.fst
  :: nilL (Int × (Int × Int × Int × Int × Int × Int × Int × Int × Unit) × Int × Unit) = x.snd.snd.fst :: nilL (Int × (Int × Int × Int × Int × Int × Int × Int × Int × Unit) × Int × Unit)) ∧ Wr (x.fst.fst.fst =
  x.fst.fst.fst) ∧ Wr (x.fst.fst.snd.fst = x.fst.fst.snd.fst) ∧ Wr (x.fst.fst.snd.snd.fst = x.fst.fst.snd.snd.fst) ∧ Wr (x.fst.fst.snd.snd.snd.fst = x.fst.fst.snd.snd.snd.fst) ∧ Wr (x.fst.snd.fst = x.fst.snd.fst) ∧ Wr
  (x.fst.snd.snd.fst = x.fst.snd.snd.fst) ∧ Wr (x.fst.snd.snd.snd.fst = x.fst.snd.snd.snd.fst) ∧ Wr (x.fst.snd.snd.snd.snd.fst = x.fst.snd.snd.snd.snd.fst) ∧ Wr (x.fst.snd.snd.snd.snd.snd.fst =
  x.fst.snd.snd.snd.snd.snd.fst) ∧ Wr (x.fst.snd.snd.snd.snd.snd.snd.fst = x.fst.snd.snd.snd.snd.snd.snd.fst) ∧ Wr ((0 : Int) = (0 : Int)) ∧ Wr ((0 : Int) = (0 : Int)) ∧ Wr ((0 : Int) = (0 : Int)) ∧ Wr (x.snd.snd.fst.fst
  = x.snd.snd.fst.fst) ∧ Wr (x.snd.snd.fst.snd.fst.fst = x.snd.snd.fst.snd.fst.fst) ∧ Wr (x.snd.snd.fst.snd.fst.snd.fst = x.snd.snd.fst.snd.fst.snd.fst) ∧ Wr (x.snd.snd.fst.snd.fst.snd.snd.fst =
  x.snd.snd.fst.snd.fst.snd.snd.fst) ∧ Wr (x.snd.snd.fst.snd.fst.snd.snd.snd.fst = x.snd.snd.fst.snd.fst.snd.snd.snd.fst) ∧ Wr (x.snd.snd.fst.snd.fst.snd.snd.snd.snd.fst = x.snd.snd.fst.snd.fst.snd.snd.snd.snd.fst) ∧ Wr
  (x.snd.snd.fst.snd.fst.snd.snd.snd.snd.snd.fst = x.snd.snd.fst.snd.fst.snd.snd.snd.snd.snd.fst) ∧ Wr (x.snd.snd.fst.snd.fst.snd.snd.snd.snd.snd.snd.fst = x.snd.snd.fst.snd.fst.snd.snd.snd.snd.snd.snd.fst) ∧ Wr
  (x.snd.snd.fst.snd.fst.snd.snd.snd.snd.snd.snd.snd.fst = x.snd.snd.fst.snd.fst.snd.snd.snd.snd.snd.snd.snd.fst) ∧ Wr (x.snd.snd.fst.snd.snd.fst = x.snd.snd.fst.snd.snd.fst) ∧ Wr (x.fst.fst.fst = x.fst.fst.fst) ∧ Wr
  (x.fst.fst.snd.fst = x.fst.fst.snd.fst) ∧ Wr (x.fst.fst.snd.snd.fst = x.fst.fst.snd.snd.fst) ∧ Wr (x.fst.fst.snd.snd.snd.fst = x.fst.fst.snd.snd.snd.fst) ∧ Wr (x.fst.snd.fst = x.fst.snd.fst) ∧ Wr (x.fst.snd.snd.fst =
  x.fst.snd.snd.fst) ∧ Wr (x.fst.snd.snd.snd.fst = x.fst.snd.snd.snd.fst) ∧ Wr (x.fst.snd.snd.snd.snd.fst = x.fst.snd.snd.snd.snd.fst) ∧ Wr (x.fst.snd.snd.snd.snd.snd.fst = x.fst.snd.snd.snd.snd.snd.fst) ∧ Wr
  (x.fst.snd.snd.snd.snd.snd.snd.fst = x.fst.snd.snd.snd.snd.snd.snd.fst)) (Wr (CntI (dlAd x.snd.snd.fst) x.fst.snd.snd.snd.fst (IntKind.wrap IntKind.i64 (x_1.fst + (1 : Int))) x_1.snd) ∧ Wr (List.length
  x.fst.snd.snd.snd.fst - Int.toNat (IntKind.wrap IntKind.i64 (x_1.fst + (1 : Int))) < List.length x.fst.snd.snd.snd.fst - Int.toNat x_1.fst) ∧ Wr (IntKind.wrap IntKind.i64 (x_1.fst + (1 : Int)) = IntKind.wrap IntKind.i64
  (x_1.fst + (1 : Int))) ∧ Wr (x_1.snd = x_1.snd) ∧ Wr (x.fst.snd.snd.snd.fst = x.fst.snd.snd.snd.fst) ∧ Wr (x.fst.snd.snd.snd.fst = x.fst.snd.snd.snd.fst) ∧ Wr ((↑(List.length x.fst.snd.snd.snd.fst) : Int) =
  (↑(List.length x.fst.snd.snd.snd.fst) : Int)) ∧ Wr (x.snd.snd.fst :: nilL (Int × (Int × Int × Int × Int × Int × Int × Int × Int × Unit) × Int × Unit) = x.snd.snd.fst :: nilL (Int × (Int × Int × Int × Int × Int × Int ×
  Int × Int × Unit) × Int × Unit)) ∧ Wr (x.fst.fst.fst = x.fst.fst.fst) ∧ Wr (x.fst.fst.snd.fst = x.fst.fst.snd.fst) ∧ Wr (x.fst.fst.snd.snd.fst = x.fst.fst.snd.snd.fst) ∧ Wr (x.fst.fst.snd.snd.snd.fst =
  x.fst.fst.snd.snd.snd.fst) ∧ Wr (x.fst.snd.fst = x.fst.snd.fst) ∧ Wr (x.fst.snd.snd.fst = x.fst.snd.snd.fst) ∧ Wr (x.fst.snd.snd.snd.fst = x.fst.snd.snd.snd.fst) ∧ Wr (x.fst.snd.snd.snd.snd.fst =
  x.fst.snd.snd.snd.snd.fst) ∧ Wr (x.fst.snd.snd.snd.snd.snd.fst = x.fst.snd.snd.snd.snd.snd.fst) ∧ Wr (x.fst.snd.snd.snd.snd.snd.snd.fst = x.fst.snd.snd.snd.snd.snd.snd.fst) ∧ Wr ((0 : Int) = (0 : Int)) ∧ Wr ((0 : Int) =
  (0 : Int)) ∧ Wr ((0 : Int) = (0 : Int)) ∧ Wr (x.snd.snd.fst.fst = x.snd.snd.fst.fst) ∧ Wr (x.snd.snd.fst.snd.fst.fst = x.snd.snd.fst.snd.fst.fst) ∧ Wr (x.snd.snd.fst.snd.fst.snd.fst = x.snd.snd.fst.snd.fst.snd.fst) ∧ Wr
  (x.snd.snd.fst.snd.fst.snd.snd.fst = x.snd.snd.fst.snd.fst.snd.snd.fst) ∧ Wr (x.snd.snd.fst.snd.fst.snd.snd.snd.fst = x.snd.snd.fst.snd.fst.snd.snd.snd.fst) ∧ Wr (x.snd.snd.fst.snd.fst.snd.snd.snd.snd.fst =
  x.snd.snd.fst.snd.fst.snd.snd.snd.snd.fst) ∧ Wr (x.snd.snd.fst.snd.fst.snd.snd.snd.snd.snd.fst = x.snd.snd.fst.snd.fst.snd.snd.snd.snd.snd.fst) ∧ Wr (x.snd.snd.fst.snd.fst.snd.snd.snd.snd.snd.snd.fst =
  x.snd.snd.fst.snd.fst.snd.snd.snd.snd.snd.snd.fst) ∧ Wr (x.snd.snd.fst.snd.fst.snd.snd.snd.snd.snd.snd.snd.fst = x.snd.snd.fst.snd.fst.snd.snd.snd.snd.snd.snd.snd.fst) ∧ Wr (x.snd.snd.fst.snd.snd.fst =
  x.snd.snd.fst.snd.snd.fst) ∧ Wr (x.fst.fst.fst = x.fst.fst.fst) ∧ Wr (x.fst.fst.snd.fst = x.fst.fst.snd.fst) ∧ Wr (x.fst.fst.snd.snd.fst = x.fst.fst.snd.snd.fst) ∧ Wr (x.fst.fst.snd.snd.snd.fst =
  x.fst.fst.snd.snd.snd.fst) ∧ Wr (x.fst.snd.fst = x.fst.snd.fst) ∧ Wr (x.fst.snd.snd.fst = x.fst.snd.snd.fst) ∧ Wr (x.fst.snd.snd.snd.fst = x.fst.snd.snd.snd.fst) ∧ Wr (x.fst.snd.snd.snd.snd.fst =
  x.fst.snd.snd.snd.snd.fst) ∧ Wr (x.fst.snd.snd.snd.snd.snd.fst = x.fst.snd.snd.snd.snd.snd.fst) ∧ Wr (x.fst.snd.snd.snd.snd.snd.snd.fst = x.fst.snd.snd.snd.snd.snd.snd.fst))) (Wr True ∧ Wr (okP x.fst.fst = Bool.true) ∧
  Wr ((List.length x.fst.snd.snd.snd.fst + List.length ((x.snd.fst, x.snd.snd.fst, fateF x.fst.fst x.snd.snd.fst x_1.snd, Bool.false, Bool.false, ()) :: nilL (Int × (Int × (Int × Int × Int × Int × Int × Int × Int × Int ×
  Unit) × Int × Unit) × Int × Bool × Bool × Unit))) * (48 : Nat) ≤ (140737488355328 : Nat)) ∧ Wr ((0 : Nat) < List.length ((x.snd.fst, x.snd.snd.fst, fateF x.fst.fst x.snd.snd.fst x_1.snd, Bool.false, Bool.false, ()) ::
  nilL (Int × (Int × (Int × Int × Int × Int × Int × Int × Int × Int × Unit) × Int × Unit) × Int × Bool × Bool × Unit))) ∧ ((x.fst.fst, x.fst.snd.fst, x.fst.snd.snd.fst, x.fst.snd.snd.snd.fst ++ (x.snd.fst, x.snd.snd.fst,
  fateF x.fst.fst x.snd.snd.fst x_1.snd, Bool.false, Bool.false, ()) :: nilL (Int × (Int × (Int × Int × Int × Int × Int × Int × Int × Int × Unit) × Int × Unit) × Int × Bool × Bool × Unit), x.fst.snd.snd.snd.snd), (0 :
  Int), ()) = (dialW x.fst x.snd.fst x.snd.snd.fst, dialE x.fst x.snd.fst x.snd.snd.fst, ()))))) := by kernel_rfl
theorem v13_eq : vcFn g13 300 Tryd.f13 cCut = ( ∀ (x : ((List (ByteArray × List (List (Int × (Int × Int × Int × Int × Int × Int × Int × Int × Unit) × Int × Unit)) × Unit) × List ((Int × (Int × Int × Int × Int × Int × Int × Int × Int × Unit) × Int × Unit) × List Int ×
  Unit) × Int × List Int × Unit) × Int × List ((Int × (Int × Int × Int × Int × Int × Int × Int × Int × Unit) × Int × Unit) × Int × Int × Int × Bool × Unit) × List (Int × (Int × (Int × Int × Int × Int × Int × Int × Int ×
  Int × Unit) × Int × Unit) × Int × Bool × Bool × Unit) × List (Int × ByteArray × Int × Bool × Unit) × Int × List (Bool × Int × Int × Unit) × Unit) × Int × Unit), Wr (okW x.fst = Bool.true) → Wr (okG (Option.some (x.fst,
  ())) = Bool.true) ∧ Wr (Decidable.decide (ixD (glW (Option.some (x.fst, ()))).snd.snd.snd.fst x.snd.fst ≥ (0 : Int)) = Bool.true → (0 : Int) ≤ ixD (glW (Option.some (x.fst, ()))).snd.snd.snd.fst x.snd.fst) ∧ Wr
  (Decidable.decide (ixD (glW (Option.some (x.fst, ()))).snd.snd.snd.fst x.snd.fst ≥ (0 : Int)) = Bool.true → ixD (glW (Option.some (x.fst, ()))).snd.snd.snd.fst x.snd.fst < (↑(List.length x.fst.snd.snd.snd.fst) : Int)) ∧
  Wr (Decidable.decide (ixD (glW (Option.some (x.fst, ()))).snd.snd.snd.fst x.snd.fst ≥ (0 : Int)) = Bool.true → Bool.true = Bool.true) ∧ Wr (Decidable.decide (ixD (glW (Option.some (x.fst, ()))).snd.snd.snd.fst x.snd.fst
  ≥ (0 : Int)) = Bool.true → Bool.true = Bool.true) ∧ bcase (Decidable.decide (ixD (glW (Option.some (x.fst, ()))).snd.snd.snd.fst x.snd.fst ≥ (0 : Int)) && !(List.getD x.fst.snd.snd.snd.fst (Int.toNat (ixD (glW
  (Option.some (x.fst, ()))).snd.snd.snd.fst x.snd.fst)) (Ty.zero DialT)).snd.snd.snd.snd.fst) (Wr (Decidable.decide (List.length x.fst.snd.snd.snd.fst * (48 : Nat) ≤ (140737488355328 : Nat)) = Bool.true) ∧ Wr ((0 : Int)
  ≤ ixD (glW (Option.some (x.fst, ()))).snd.snd.snd.fst x.snd.fst) ∧ Wr (ixD (glW (Option.some (x.fst, ()))).snd.snd.snd.fst x.snd.fst < (↑(List.length x.fst.snd.snd.snd.fst) : Int)) ∧ ((x.fst.fst, x.fst.snd.fst,
  x.fst.snd.snd.fst, List.set x.fst.snd.snd.snd.fst (Int.toNat (ixD (glW (Option.some (x.fst, ()))).snd.snd.snd.fst x.snd.fst)) ((List.getD x.fst.snd.snd.snd.fst (Int.toNat (ixD (glW (Option.some (x.fst,
  ()))).snd.snd.snd.fst x.snd.fst)) (Ty.zero DialT)).fst, (List.getD x.fst.snd.snd.snd.fst (Int.toNat (ixD (glW (Option.some (x.fst, ()))).snd.snd.snd.fst x.snd.fst)) (Ty.zero DialT)).snd.fst, (List.getD
  x.fst.snd.snd.snd.fst (Int.toNat (ixD (glW (Option.some (x.fst, ()))).snd.snd.snd.fst x.snd.fst)) (Ty.zero DialT)).snd.snd.fst, Bool.true, (List.getD x.fst.snd.snd.snd.fst (Int.toNat (ixD (glW (Option.some (x.fst,
  ()))).snd.snd.snd.fst x.snd.fst)) (Ty.zero DialT)).snd.snd.snd.snd), x.fst.snd.snd.snd.snd), ()) = (cutW x.fst x.snd.fst, ())) ((x.fst, ()) = (cutW x.fst x.snd.fst, ()))) := by kernel_rfl
theorem v14_eq : vcFn g14 300 Tryd.f14 cReady = ( ∀ (x : ((List (ByteArray × List (List (Int × (Int × Int × Int × Int × Int × Int × Int × Int × Unit) × Int × Unit)) × Unit) × List ((Int × (Int × Int × Int × Int × Int × Int × Int × Int × Unit) × Int × Unit) × List Int ×
  Unit) × Int × List Int × Unit) × Int × List ((Int × (Int × Int × Int × Int × Int × Int × Int × Int × Unit) × Int × Unit) × Int × Int × Int × Bool × Unit) × List (Int × (Int × (Int × Int × Int × Int × Int × Int × Int ×
  Int × Unit) × Int × Unit) × Int × Bool × Bool × Unit) × List (Int × ByteArray × Int × Bool × Unit) × Int × List (Bool × Int × Int × Unit) × Unit) × Int × Unit), Wr (okW x.fst = Bool.true) → Wr (okG (Option.some (x.fst,
  ())) = Bool.true) ∧ (readyW (glW (Option.some (x.fst, ()))) x.snd.fst, ()) = (readyW x.fst x.snd.fst, ())) := by kernel_rfl
theorem v36_eq : vcFn g36 300 Tryd.f36 cOpen = ( ∀ (x : List ((Int × (Int × Int × Int × Int × Int × Int × Int × Int × Unit) × Int × Unit) × Int × Int × Int × Bool × Unit) × List (Bool × Int × Int × Unit) × (Int × (Int × Int × Int × Int × Int × Int × Int × Int × Unit) ×
  Int × Unit) × Int × Int × Unit), Wr (okSM x.fst x.snd.fst = Bool.true) → Wr True ∧ Wr ((List.length x.fst + List.length ((x.snd.snd.fst, x.snd.snd.snd.fst, x.snd.snd.snd.snd.fst, (0 : Int), Bool.false, ()) :: nilL ((Int
  × (Int × Int × Int × Int × Int × Int × Int × Int × Unit) × Int × Unit) × Int × Int × Int × Bool × Unit))) * (64 : Nat) ≤ (140737488355328 : Nat)) ∧ Wr ((0 : Nat) < List.length ((x.snd.snd.fst, x.snd.snd.snd.fst,
  x.snd.snd.snd.snd.fst, (0 : Int), Bool.false, ()) :: nilL ((Int × (Int × Int × Int × Int × Int × Int × Int × Int × Unit) × Int × Unit) × Int × Int × Int × Bool × Unit))) ∧ Wr True ∧ Wr ((List.length x.snd.fst +
  List.length ((Bool.false, (↑(List.length x.fst) : Int), x.snd.snd.snd.snd) :: nilL (Bool × Int × Int × Unit))) * (24 : Nat) ≤ (140737488355328 : Nat)) ∧ Wr ((0 : Nat) < List.length ((Bool.false, (↑(List.length x.fst) :
  Int), x.snd.snd.snd.snd) :: nilL (Bool × Int × Int × Unit))) ∧ (x.fst ++ (x.snd.snd.fst, x.snd.snd.snd.fst, x.snd.snd.snd.snd.fst, (0 : Int), Bool.false, ()) :: nilL ((Int × (Int × Int × Int × Int × Int × Int × Int ×
  Int × Unit) × Int × Unit) × Int × Int × Int × Bool × Unit), x.snd.fst ++ (Bool.false, (↑(List.length x.fst) : Int), x.snd.snd.snd.snd) :: nilL (Bool × Int × Int × Unit), (↑(List.length x.fst) : Int), ()) = (addS x.fst
  x.snd.snd.fst x.snd.snd.snd.fst x.snd.snd.snd.snd.fst, addM x.snd.fst Bool.false (lenS x.fst) x.snd.snd.snd.snd.fst, lenS x.fst, ())) := by kernel_rfl
theorem v15_eq : vcFn g15 300 Tryd.f15 cEnd = ( ∀ (x : ((List (ByteArray × List (List (Int × (Int × Int × Int × Int × Int × Int × Int × Int × Unit) × Int × Unit)) × Unit) × List ((Int × (Int × Int × Int × Int × Int × Int × Int × Int × Unit) × Int × Unit) × List Int ×
  Unit) × Int × List Int × Unit) × Int × List ((Int × (Int × Int × Int × Int × Int × Int × Int × Int × Unit) × Int × Unit) × Int × Int × Int × Bool × Unit) × List (Int × (Int × (Int × Int × Int × Int × Int × Int × Int ×
  Int × Unit) × Int × Unit) × Int × Bool × Bool × Unit) × List (Int × ByteArray × Int × Bool × Unit) × Int × List (Bool × Int × Int × Unit) × Unit) × Int × Unit), Wr (okW x.fst = Bool.true) → Wr (okG (Option.some (x.fst,
  ())) = Bool.true) ∧ bcase (!readyW (glW (Option.some (x.fst, ()))) x.snd.fst) ((x.fst, ((0 : Int), (0 : Int), (0 : Int), (0 : Int), ByteArray.mk (List.toArray (nilL UInt8)), (0 : Int), ()), (100 : Int), ()) = (endW
  x.fst x.snd.fst, endM x.fst x.snd.fst, endE x.fst x.snd.fst, ())) (Wr (okG (Option.some (x.fst, ())) = Bool.true) ∧ Wr (Decidable.decide (List.length x.fst.snd.snd.snd.fst * (48 : Nat) ≤ (140737488355328 : Nat)) =
  Bool.true) ∧ Wr ((0 : Int) ≤ ixD (glW (Option.some (x.fst, ()))).snd.snd.snd.fst x.snd.fst) ∧ Wr (ixD (glW (Option.some (x.fst, ()))).snd.snd.snd.fst x.snd.fst < (↑(List.length x.fst.snd.snd.snd.fst) : Int)) ∧ Wr ((0 :
  Int) ≤ ixD (glW (Option.some (x.fst, ()))).snd.snd.snd.fst x.snd.fst) ∧ Wr (ixD (glW (Option.some (x.fst, ()))).snd.snd.snd.fst x.snd.fst < (↑(List.length (List.set x.fst.snd.snd.snd.fst (Int.toNat (ixD (glW
  (Option.some (x.fst, ()))).snd.snd.snd.fst x.snd.fst)) ((List.getD x.fst.snd.snd.snd.fst (Int.toNat (ixD (glW (Option.some (x.fst, ()))).snd.snd.snd.fst x.snd.fst)) (Ty.zero DialT)).fst, (List.getD x.fst.snd.snd.snd.fst
  (Int.toNat (ixD (glW (Option.some (x.fst, ()))).snd.snd.snd.fst x.snd.fst)) (Ty.zero DialT)).snd.fst, (List.getD x.fst.snd.snd.snd.fst (Int.toNat (ixD (glW (Option.some (x.fst, ()))).snd.snd.snd.fst x.snd.fst)) (Ty.zero
  DialT)).snd.snd.fst, (List.getD x.fst.snd.snd.snd.fst (Int.toNat (ixD (glW (Option.some (x.fst, ()))).snd.snd.snd.fst x.snd.fst)) (Ty.zero DialT)).snd.snd.snd.fst, Bool.true, ()))) : Int)) ∧ bcase (Decidable.decide
  ((List.getD (List.set x.fst.snd.snd.snd.fst (Int.toNat (ixD (glW (Option.some (x.fst, ()))).snd.snd.snd.fst x.snd.fst)) ((List.getD x.fst.snd.snd.snd.fst (Int.toNat (ixD (glW (Option.some (x.fst, ()))).snd.snd.snd.fst
  x.snd.fst)) (Ty.zero DialT)).fst, (List.getD x.fst.snd.snd.snd.fst (Int.toNat (ixD (glW (Option.some (x.fst, ()))).snd.snd.snd.fst x.snd.fst)) (Ty.zero DialT)).snd.fst, (List.getD x.fst.snd.snd.snd.fst (Int.toNat (ixD
  (glW (Option.some (x.fst, ()))).snd.snd.snd.fst x.snd.fst)) (Ty.zero DialT)).snd.snd.fst, (List.getD x.fst.snd.snd.snd.fst (Int.toNat (ixD (glW (Option.some (x.fst, ()))).snd.snd.snd.fst x.snd.fst)) (Ty.zero
  DialT)).snd.snd.snd.fst, Bool.true, ())) (Int.toNat (ixD (glW (Option.some (x.fst, ()))).snd.snd.snd.fst x.snd.fst)) (Ty.zero DialT)).snd.snd.fst = (0 : Int))) (Wr ((0 : Int) ≤ ixD (glW (Option.some (x.fst,
  ()))).snd.snd.snd.fst x.snd.fst) ∧ Wr (ixD (glW (Option.some (x.fst, ()))).snd.snd.snd.fst x.snd.fst < (↑(List.length (List.set x.fst.snd.snd.snd.fst (Int.toNat (ixD (glW (Option.some (x.fst, ()))).snd.snd.snd.fst
  x.snd.fst)) ((List.getD x.fst.snd.snd.snd.fst (Int.toNat (ixD (glW (Option.some (x.fst, ()))).snd.snd.snd.fst x.snd.fst)) (Ty.zero DialT)).fst, (List.getD x.fst.snd.snd.snd.fst (Int.toNat (ixD (glW (Option.some (x.fst,
  ()))).snd.snd.snd.fst x.snd.fst)) (Ty.zero DialT)).snd.fst, (List.getD x.fst.snd.snd.snd.fst (Int.toNat (ixD (glW (Option.some (x.fst, ()))).snd.snd.snd.fst x.snd.fst)) (Ty.zero DialT)).snd.snd.fst, (List.getD
  x.fst.snd.snd.snd.fst (Int.toNat (ixD (glW (Option.some (x.fst, ()))).snd.snd.snd.fst x.snd.fst)) (Ty.zero DialT)).snd.snd.snd.fst, Bool.true, ()))) : Int)) ∧ Wr (okSM x.fst.snd.snd.fst x.fst.snd.snd.snd.snd.snd.snd.fst
  = Bool.true) ∧ ((x.fst.fst, x.fst.snd.fst, addS x.fst.snd.snd.fst (List.getD (List.set x.fst.snd.snd.snd.fst (Int.toNat (ixD (glW (Option.some (x.fst, ()))).snd.snd.snd.fst x.snd.fst)) ((List.getD x.fst.snd.snd.snd.fst
  (Int.toNat (ixD (glW (Option.some (x.fst, ()))).snd.snd.snd.fst x.snd.fst)) (Ty.zero DialT)).fst, (List.getD x.fst.snd.snd.snd.fst (Int.toNat (ixD (glW (Option.some (x.fst, ()))).snd.snd.snd.fst x.snd.fst)) (Ty.zero
  DialT)).snd.fst, (List.getD x.fst.snd.snd.snd.fst (Int.toNat (ixD (glW (Option.some (x.fst, ()))).snd.snd.snd.fst x.snd.fst)) (Ty.zero DialT)).snd.snd.fst, (List.getD x.fst.snd.snd.snd.fst (Int.toNat (ixD (glW
  (Option.some (x.fst, ()))).snd.snd.snd.fst x.snd.fst)) (Ty.zero DialT)).snd.snd.snd.fst, Bool.true, ())) (Int.toNat (ixD (glW (Option.some (x.fst, ()))).snd.snd.snd.fst x.snd.fst)) (Ty.zero DialT)).snd.fst x.snd.fst
  x.fst.snd.fst, List.set x.fst.snd.snd.snd.fst (Int.toNat (ixD (glW (Option.some (x.fst, ()))).snd.snd.snd.fst x.snd.fst)) ((List.getD x.fst.snd.snd.snd.fst (Int.toNat (ixD (glW (Option.some (x.fst, ()))).snd.snd.snd.fst
  x.snd.fst)) (Ty.zero DialT)).fst, (List.getD x.fst.snd.snd.snd.fst (Int.toNat (ixD (glW (Option.some (x.fst, ()))).snd.snd.snd.fst x.snd.fst)) (Ty.zero DialT)).snd.fst, (List.getD x.fst.snd.snd.snd.fst (Int.toNat (ixD
  (glW (Option.some (x.fst, ()))).snd.snd.snd.fst x.snd.fst)) (Ty.zero DialT)).snd.snd.fst, (List.getD x.fst.snd.snd.snd.fst (Int.toNat (ixD (glW (Option.some (x.fst, ()))).snd.snd.snd.fst x.snd.fst)) (Ty.zero
  DialT)).snd.snd.snd.fst, Bool.true, ()), x.fst.snd.snd.snd.snd.fst, x.fst.snd.snd.snd.snd.snd.fst, addM x.fst.snd.snd.snd.snd.snd.snd.fst Bool.false (lenS x.fst.snd.snd.fst) x.fst.snd.fst, ()), ((11 : Int), (0 : Int),
  (0 : Int), lenS x.fst.snd.snd.fst, ByteArray.mk (List.toArray (nilL UInt8)), (0 : Int), ()), (0 : Int), ()) = (endW x.fst x.snd.fst, endM x.fst x.snd.fst, endE x.fst x.snd.fst, ())) (((x.fst.fst, x.fst.snd.fst,
  x.fst.snd.snd.fst, List.set x.fst.snd.snd.snd.fst (Int.toNat (ixD (glW (Option.some (x.fst, ()))).snd.snd.snd.fst x.snd.fst)) ((List.getD x.fst.snd.snd.snd.fst (Int.toNat (ixD (glW (Option.some (x.fst,
  ()))).snd.snd.snd.fst x.snd.fst)) (Ty.zero DialT)).fst, (List.getD x.fst.snd.snd.snd.fst (Int.toNat (ixD (glW (Option.some (x.fst, ()))).snd.snd.snd.fst x.snd.fst)) (Ty.zero DialT)).snd.fst, (List.getD
  x.fst.snd.snd.snd.fst (Int.toNat (ixD (glW (Option.some (x.fst, ()))).snd.snd.snd.fst x.snd.fst)) (Ty.zero DialT)).snd.snd.fst, (List.getD x.fst.snd.snd.snd.fst (Int.toNat (ixD (glW (Option.some (x.fst,
  ()))).snd.snd.snd.fst x.snd.fst)) (Ty.zero DialT)).snd.snd.snd.fst, Bool.true, ()), x.fst.snd.snd.snd.snd), ((11 : Int), (0 : Int), (0 : Int), (0 : Int), ByteArray.mk (List.toArray (nilL UInt8)), (160 : Int), ()), (0 :
  Int), ()) = (endW x.fst x.snd.fst, endM x.fst x.snd.fst, endE x.fst x.snd.fst, ())))) := by kernel_rfl
theorem v55_eq : vcFn g55 300 Tryd.f55 cHas = ( ∀ (x : List (Int × (Int × Int × Int × Int × Int × Int × Int × Int × Unit) × Int × Unit) × (Int × (Int × Int × Int × Int × Int × Int × Int × Int × Unit) × Int × Unit) × Unit), Wr (lenA x.fst = Bool.true) → (Wr (IdxI (eqAd
  x.snd.fst) x.fst (0 : Int)) ∧ Wr ((0 : Int) = (0 : Int)) ∧ Wr (x.fst = x.fst) ∧ Wr (x.fst = x.fst) ∧ Wr ((↑(List.length x.fst) : Int) = (↑(List.length x.fst) : Int)) ∧ Wr (x.snd.fst.fst = x.snd.fst.fst) ∧ Wr
  (x.snd.fst.snd.fst.fst = x.snd.fst.snd.fst.fst) ∧ Wr (x.snd.fst.snd.fst.snd.fst = x.snd.fst.snd.fst.snd.fst) ∧ Wr (x.snd.fst.snd.fst.snd.snd.fst = x.snd.fst.snd.fst.snd.snd.fst) ∧ Wr (x.snd.fst.snd.fst.snd.snd.snd.fst =
  x.snd.fst.snd.fst.snd.snd.snd.fst) ∧ Wr (x.snd.fst.snd.fst.snd.snd.snd.snd.fst = x.snd.fst.snd.fst.snd.snd.snd.snd.fst) ∧ Wr (x.snd.fst.snd.fst.snd.snd.snd.snd.snd.fst = x.snd.fst.snd.fst.snd.snd.snd.snd.snd.fst) ∧ Wr
  (x.snd.fst.snd.fst.snd.snd.snd.snd.snd.snd.fst = x.snd.fst.snd.fst.snd.snd.snd.snd.snd.snd.fst) ∧ Wr (x.snd.fst.snd.fst.snd.snd.snd.snd.snd.snd.snd.fst = x.snd.fst.snd.fst.snd.snd.snd.snd.snd.snd.snd.fst) ∧ Wr
  (x.snd.fst.snd.snd.fst = x.snd.fst.snd.snd.fst) ∧ Wr (x.snd.fst.fst = x.snd.fst.fst) ∧ Wr (x.snd.fst.snd.fst.fst = x.snd.fst.snd.fst.fst) ∧ Wr (x.snd.fst.snd.fst.snd.fst = x.snd.fst.snd.fst.snd.fst) ∧ Wr
  (x.snd.fst.snd.fst.snd.snd.fst = x.snd.fst.snd.fst.snd.snd.fst) ∧ Wr (x.snd.fst.snd.fst.snd.snd.snd.fst = x.snd.fst.snd.fst.snd.snd.snd.fst) ∧ Wr (x.snd.fst.snd.fst.snd.snd.snd.snd.fst =
  x.snd.fst.snd.fst.snd.snd.snd.snd.fst) ∧ Wr (x.snd.fst.snd.fst.snd.snd.snd.snd.snd.fst = x.snd.fst.snd.fst.snd.snd.snd.snd.snd.fst) ∧ Wr (x.snd.fst.snd.fst.snd.snd.snd.snd.snd.snd.fst =
  x.snd.fst.snd.fst.snd.snd.snd.snd.snd.snd.fst) ∧ Wr (x.snd.fst.snd.fst.snd.snd.snd.snd.snd.snd.snd.fst = x.snd.fst.snd.fst.snd.snd.snd.snd.snd.snd.snd.fst) ∧ Wr (x.snd.fst.snd.snd.fst = x.snd.fst.snd.snd.fst)) ∧ ∀ (x_1
  : Int), Wr (IdxI (eqAd x.snd.fst) x.fst x_1) → bcase (Decidable.decide (x_1 < (↑(List.length x.fst) : Int))) (Wr ((0 : Int) ≤ x_1) ∧ Wr (x_1 < (↑(List.length x.fst) : Int)) ∧ Wr (Bool.true = Bool.true) ∧ bcase (Ty.eqb
  (Ty.cons (Ty.int IntKind.i8) (Ty.cons (Ty.arr (8 : Nat) (Ty.int IntKind.u16)) (Ty.cons (Ty.int IntKind.i64) Ty.unit))) x.snd.fst (List.getD x.fst (Int.toNat x_1) (Ty.zero AdT))) ((Decidable.decide (x_1 ≥ (0 : Int)), ())
  = (hasA x.fst x.snd.fst, ())) (Wr (IdxI (eqAd x.snd.fst) x.fst (IntKind.wrap IntKind.i64 (x_1 + (1 : Int)))) ∧ Wr (List.length x.fst - Int.toNat (IntKind.wrap IntKind.i64 (x_1 + (1 : Int))) < List.length x.fst -
  Int.toNat x_1) ∧ Wr (IntKind.wrap IntKind.i64 (x_1 + (1 : Int)) = IntKind.wrap IntKind.i64 (x_1 + (1 : Int))) ∧ Wr (x.fst = x.fst) ∧ Wr (x.fst = x.fst) ∧ Wr ((↑(List.length x.fst) : Int) = (↑(List.length x.fst) : Int))
  ∧ Wr (x.snd.fst.fst = x.snd.fst.fst) ∧ Wr (x.snd.fst.snd.fst.fst = x.snd.fst.snd.fst.fst) ∧ Wr (x.snd.fst.snd.fst.snd.fst = x.snd.fst.snd.fst.snd.fst) ∧ Wr (x.snd.fst.snd.fst.snd.snd.fst = x.snd.fst.snd.fst.snd.snd.fst)
  ∧ Wr (x.snd.fst.snd.fst.snd.snd.snd.fst = x.snd.fst.snd.fst.snd.snd.snd.fst) ∧ Wr (x.snd.fst.snd.fst.snd.snd.snd.snd.fst = x.snd.fst.snd.fst.snd.snd.snd.snd.fst) ∧ Wr (x.snd.fst.snd.fst.snd.snd.snd.snd.snd.fst =
  x.snd.fst.snd.fst.snd.snd.snd.snd.snd.fst) ∧ Wr (x.snd.fst.snd.fst.snd.snd.snd.snd.snd.snd.fst = x.snd.fst.snd.fst.snd.snd.snd.snd.snd.snd.fst) ∧ Wr (x.snd.fst.snd.fst.snd.snd.snd.snd.snd.snd.snd.fst =
  x.snd.fst.snd.fst.snd.snd.snd.snd.snd.snd.snd.fst) ∧ Wr (x.snd.fst.snd.snd.fst = x.snd.fst.snd.snd.fst) ∧ Wr (x.snd.fst.fst = x.snd.fst.fst) ∧ Wr (x.snd.fst.snd.fst.fst = x.snd.fst.snd.fst.fst) ∧ Wr
  (x.snd.fst.snd.fst.snd.fst = x.snd.fst.snd.fst.snd.fst) ∧ Wr (x.snd.fst.snd.fst.snd.snd.fst = x.snd.fst.snd.fst.snd.snd.fst) ∧ Wr (x.snd.fst.snd.fst.snd.snd.snd.fst = x.snd.fst.snd.fst.snd.snd.snd.fst) ∧ Wr
  (x.snd.fst.snd.fst.snd.snd.snd.snd.fst = x.snd.fst.snd.fst.snd.snd.snd.snd.fst) ∧ Wr (x.snd.fst.snd.fst.snd.snd.snd.snd.snd.fst = x.snd.fst.snd.fst.snd.snd.snd.snd.snd.fst) ∧ Wr
  (x.snd.fst.snd.fst.snd.snd.snd.snd.snd.snd.fst = x.snd.fst.snd.fst.snd.snd.snd.snd.snd.snd.fst) ∧ Wr (x.snd.fst.snd.fst.snd.snd.snd.snd.snd.snd.snd.fst = x.snd.fst.snd.fst.snd.snd.snd.snd.snd.snd.snd.fst) ∧ Wr
  (x.snd.fst.snd.snd.fst = x.snd.fst.snd.snd.fst))) ((Decidable.decide ((-1 : Int) ≥ (0 : Int)), ()) = (hasA x.fst x.snd.fst, ()))) := by kernel_rfl
theorem v23_eq : vcFn g23 300 Tryd.f23 cUnder = ( ∀ (x : ((List (ByteArray × List (List (Int × (Int × Int × Int × Int × Int × Int × Int × Int × Unit) × Int × Unit)) × Unit) × List ((Int × (Int × Int × Int × Int × Int × Int × Int × Int × Unit) × Int × Unit) × List Int ×
  Unit) × Int × List Int × Unit) × Int × List ((Int × (Int × Int × Int × Int × Int × Int × Int × Int × Unit) × Int × Unit) × Int × Int × Int × Bool × Unit) × List (Int × (Int × (Int × Int × Int × Int × Int × Int × Int ×
  Int × Unit) × Int × Unit) × Int × Bool × Bool × Unit) × List (Int × ByteArray × Int × Bool × Unit) × Int × List (Bool × Int × Int × Unit) × Unit) × List (Int × (Int × Int × Int × Int × Int × Int × Int × Int × Unit) ×
  Int × Unit) × Unit), Wr ((okW x.fst && lenA x.snd.fst) = Bool.true) → (Wr (CntI (underB x.snd.fst) x.fst.snd.snd.snd.fst (0 : Int) (0 : Int)) ∧ Wr ((0 : Int) = (0 : Int)) ∧ Wr ((0 : Int) = (0 : Int)) ∧ Wr
  (x.fst.snd.snd.snd.fst = x.fst.snd.snd.snd.fst) ∧ Wr (x.fst.snd.snd.snd.fst = x.fst.snd.snd.snd.fst) ∧ Wr ((↑(List.length x.fst.snd.snd.snd.fst) : Int) = (↑(List.length x.fst.snd.snd.snd.fst) : Int)) ∧ Wr (x.snd.fst =
  x.snd.fst) ∧ Wr (x.fst.fst.fst = x.fst.fst.fst) ∧ Wr (x.fst.fst.snd.fst = x.fst.fst.snd.fst) ∧ Wr (x.fst.fst.snd.snd.fst = x.fst.fst.snd.snd.fst) ∧ Wr (x.fst.fst.snd.snd.snd.fst = x.fst.fst.snd.snd.snd.fst) ∧ Wr
  (x.fst.snd.fst = x.fst.snd.fst) ∧ Wr (x.fst.snd.snd.fst = x.fst.snd.snd.fst) ∧ Wr (x.fst.snd.snd.snd.fst = x.fst.snd.snd.snd.fst) ∧ Wr (x.fst.snd.snd.snd.snd.fst = x.fst.snd.snd.snd.snd.fst) ∧ Wr
  (x.fst.snd.snd.snd.snd.snd.fst = x.fst.snd.snd.snd.snd.snd.fst) ∧ Wr (x.fst.snd.snd.snd.snd.snd.snd.fst = x.fst.snd.snd.snd.snd.snd.snd.fst)) ∧ ∀ (x_1 : Int × Int), Wr (CntI (underB x.snd.fst) x.fst.snd.snd.snd.fst
  x_1.fst x_1.snd) → bcase (Decidable.decide (x_1.fst < (↑(List.length x.fst.snd.snd.snd.fst) : Int))) (Wr ((0 : Int) ≤ x_1.fst) ∧ Wr (x_1.fst < (↑(List.length x.fst.snd.snd.snd.fst) : Int)) ∧ Wr (Bool.true = Bool.true) ∧
  Wr ((!(List.getD x.fst.snd.snd.snd.fst (Int.toNat x_1.fst) (Ty.zero DialT)).snd.snd.snd.snd.fst && !Decidable.decide ((↑(List.length x.snd.fst) : Int) = (0 : Int))) = Bool.true → lenA x.snd.fst = Bool.true) ∧ bcase
  (!(List.getD x.fst.snd.snd.snd.fst (Int.toNat x_1.fst) (Ty.zero DialT)).snd.snd.snd.snd.fst && (Decidable.decide ((↑(List.length x.snd.fst) : Int) = (0 : Int)) || hasA x.snd.fst (List.getD x.fst.snd.snd.snd.fst
  (Int.toNat x_1.fst) (Ty.zero DialT)).snd.fst)) (Wr (CntI (underB x.snd.fst) x.fst.snd.snd.snd.fst (IntKind.wrap IntKind.i64 (x_1.fst + (1 : Int))) (IntKind.wrap IntKind.i64 (x_1.snd + (1 : Int)))) ∧ Wr (List.length
  x.fst.snd.snd.snd.fst - Int.toNat (IntKind.wrap IntKind.i64 (x_1.fst + (1 : Int))) < List.length x.fst.snd.snd.snd.fst - Int.toNat x_1.fst) ∧ Wr (IntKind.wrap IntKind.i64 (x_1.fst + (1 : Int)) = IntKind.wrap IntKind.i64
  (x_1.fst + (1 : Int))) ∧ Wr (IntKind.wrap IntKind.i64 (x_1.snd + (1 : Int)) = IntKind.wrap IntKind.i64 (x_1.snd + (1 : Int))) ∧ Wr (x.fst.snd.snd.snd.fst = x.fst.snd.snd.snd.fst) ∧ Wr (x.fst.snd.snd.snd.fst =
  x.fst.snd.snd.snd.fst) ∧ Wr ((↑(List.length x.fst.snd.snd.snd.fst) : Int) = (↑(List.length x.fst.snd.snd.snd.fst) : Int)) ∧ Wr (x.snd.fst = x.snd.fst) ∧ Wr (x.fst.fst.fst = x.fst.fst.fst) ∧ Wr (x.fst.fst.snd.fst =
  x.fst.fst.snd.fst) ∧ Wr (x.fst.fst.snd.snd.fst = x.fst.fst.snd.snd.fst) ∧ Wr (x.fst.fst.snd.snd.snd.fst = x.fst.fst.snd.snd.snd.fst) ∧ Wr (x.fst.snd.fst = x.fst.snd.fst) ∧ Wr (x.fst.snd.snd.fst = x.fst.snd.snd.fst) ∧ Wr
  (x.fst.snd.snd.snd.fst = x.fst.snd.snd.snd.fst) ∧ Wr (x.fst.snd.snd.snd.snd.fst = x.fst.snd.snd.snd.snd.fst) ∧ Wr (x.fst.snd.snd.snd.snd.snd.fst = x.fst.snd.snd.snd.snd.snd.fst) ∧ Wr (x.fst.snd.snd.snd.snd.snd.snd.fst =
  x.fst.snd.snd.snd.snd.snd.snd.fst)) (Wr (CntI (underB x.snd.fst) x.fst.snd.snd.snd.fst (IntKind.wrap IntKind.i64 (x_1.fst + (1 : Int))) x_1.snd) ∧ Wr (List.length x.fst.snd.snd.snd.fst - Int.toNat (IntKind.wrap
  IntKind.i64 (x_1.fst + (1 : Int))) < List.length x.fst.snd.snd.snd.fst - Int.toNat x_1.fst) ∧ Wr (IntKind.wrap IntKind.i64 (x_1.fst + (1 : Int)) = IntKind.wrap IntKind.i64 (x_1.fst + (1 : Int))) ∧ Wr (x_1.snd = x_1.snd)
  ∧ Wr (x.fst.snd.snd.snd.fst = x.fst.snd.snd.snd.fst) ∧ Wr (x.fst.snd.snd.snd.fst = x.fst.snd.snd.snd.fst) ∧ Wr ((↑(List.length x.fst.snd.snd.snd.fst) : Int) = (↑(List.length x.fst.snd.snd.snd.fst) : Int)) ∧ Wr
  (x.snd.fst = x.snd.fst) ∧ Wr (x.fst.fst.fst = x.fst.fst.fst) ∧ Wr (x.fst.fst.snd.fst = x.fst.fst.snd.fst) ∧ Wr (x.fst.fst.snd.snd.fst = x.fst.fst.snd.snd.fst) ∧ Wr (x.fst.fst.snd.snd.snd.fst = x.fst.fst.snd.snd.snd.fst)
  ∧ Wr (x.fst.snd.fst = x.fst.snd.fst) ∧ Wr (x.fst.snd.snd.fst = x.fst.snd.snd.fst) ∧ Wr (x.fst.snd.snd.snd.fst = x.fst.snd.snd.snd.fst) ∧ Wr (x.fst.snd.snd.snd.snd.fst = x.fst.snd.snd.snd.snd.fst) ∧ Wr
  (x.fst.snd.snd.snd.snd.snd.fst = x.fst.snd.snd.snd.snd.snd.fst) ∧ Wr (x.fst.snd.snd.snd.snd.snd.snd.fst = x.fst.snd.snd.snd.snd.snd.snd.fst))) ((x_1.snd, ()) = (underW x.fst x.snd.fst, ()))) := by kernel_rfl
end Go.Proofs.YtfhlceooobabcaaDoor.Wd
set_option linter.all false
namespace Go.Proofs.YtfhlceooobabcaaDoor.Wd
open Go Go.Eng Go.Lb Go.Ad
set_option maxRecDepth 100000
set_option maxHeartbeats 4000000

theorem v30 : Vc g30 300 Tryd.f30 (cClip DialT) := by
  constructor
  rw [v30_eq]
  simp only [Wr_iff, bcase_iff, true_and, and_true, decide_eq_true_eq, decide_eq_false_iff_not, Bool.and_eq_true, Bool.and_eq_false_iff, Bool.or_eq_true, Bool.or_eq_false_iff, Bool.not_eq_true', Bool.not_eq_false', Option.map_some, Option.getD_some, Option.isSome_some, Option.isSome_map, imp_self, nilL, noneO]
  intro x _
  refine ⟨by omega, by omega, by omega, ?_⟩
  simp
theorem v61 : Vc g61 300 Tryd.f61 (cClip SockT) := by
  constructor
  rw [v61_eq]
  simp only [Wr_iff, bcase_iff, true_and, and_true, decide_eq_true_eq, decide_eq_false_iff_not, Bool.and_eq_true, Bool.and_eq_false_iff, Bool.or_eq_true, Bool.or_eq_false_iff, Bool.not_eq_true', Bool.not_eq_false', Option.map_some, Option.getD_some, Option.isSome_some, Option.isSome_map, imp_self, nilL, noneO]
  intro x _
  refine ⟨by omega, by omega, by omega, ?_⟩
  simp
theorem v62 : Vc g62 300 Tryd.f62 (cClip MarkT) := by
  constructor
  rw [v62_eq]
  simp only [Wr_iff, bcase_iff, true_and, and_true, decide_eq_true_eq, decide_eq_false_iff_not, Bool.and_eq_true, Bool.and_eq_false_iff, Bool.or_eq_true, Bool.or_eq_false_iff, Bool.not_eq_true', Bool.not_eq_false', Option.map_some, Option.getD_some, Option.isSome_some, Option.isSome_map, imp_self, nilL, noneO]
  intro x _
  refine ⟨by omega, by omega, by omega, ?_⟩
  simp
theorem v60 : Vc g60 300 Tryd.f60 (cClone 83 48 DialT) := by
  constructor
  rw [v60_eq]
  simp only [Wr_iff, bcase_iff, true_and, and_true, decide_eq_true_eq, decide_eq_false_iff_not, Bool.and_eq_true, Bool.and_eq_false_iff, Bool.or_eq_true, Bool.or_eq_false_iff, Bool.not_eq_true', Bool.not_eq_false', Option.map_some, Option.getD_some, Option.isSome_some, Option.isSome_map, imp_self, nilL, noneO]
  intro x hx b hb
  exact ⟨hb, fun _ => ⟨by simp; omega, rfl⟩⟩
theorem check_0 (p : Pl) : check p = 0 ↔ checkB p = true := by
  unfold check
  cases checkB p <;> simp
theorem v6 : Vc g6 300 Tryd.f6 cNew := by
  constructor
  rw [v6_eq]
  simp only [Wr_iff, bcase_iff, true_and, and_true, decide_eq_true_eq, decide_eq_false_iff_not, Bool.and_eq_true, Bool.and_eq_false_iff, Bool.or_eq_true, Bool.or_eq_false_iff, Bool.not_eq_true', Bool.not_eq_false', Option.map_some, Option.getD_some, Option.isSome_some, Option.isSome_map, imp_self, nilL, noneO]
  intro x _
  generalize x.fst = p
  refine ⟨fun h => ?_, fun h => ?_⟩
  · rw [newW, (check_0 p).1 h]; rfl
  · have : checkB p = false := by
      cases hb : checkB p with
      | false => rfl
      | true => exact absurd ((check_0 p).2 hb) h
    rw [newW, this]; rfl
theorem okW_iff (w : Wd) : okW w = true ↔ w.2.2.2.1.length ≤ 1000000 ∧ w.2.2.1.length ≤ 1000000 ∧ w.2.2.2.2.2.2.1.length ≤ 1000000 ∧ okP w.1 = true := by
  simp only [okW, okD, Bool.and_eq_true, decide_eq_true_eq]
theorem v36 : Vc g36 300 Tryd.f36 cOpen := by
  constructor
  rw [v36_eq]
  simp only [Wr_iff, bcase_iff, true_and, and_true, decide_eq_true_eq, decide_eq_false_iff_not, Bool.and_eq_true, Bool.and_eq_false_iff, Bool.or_eq_true, Bool.or_eq_false_iff, Bool.not_eq_true', Bool.not_eq_false', Option.map_some, Option.getD_some, Option.isSome_some, Option.isSome_map, imp_self, nilL, noneO]
  intro x
  generalize x.fst = l
  generalize x.snd.fst = m
  intro hx
  simp only [okSM, Bool.and_eq_true, decide_eq_true_eq] at hx
  simp only [List.length_cons, List.length_nil]
  refine ⟨by omega, by omega, by omega, by omega, ?_⟩
  rfl
/-! the place of the first one -/
theorem IdxI.idx {α : Type} {p : α → Bool} {l : List α} {i : Int} (z : α) (hi : IdxI p l i) (h : i < l.length) (hq : p (l.getD i.toNat z) = true) : i = idxZ p l := by
  have h0 := hi.i0
  unfold idxZ
  rw [hi.hit (z := z) h hq]
  simp only [cond_true]
  have hs := split_at z h0 h
  have hn : (l.take i.toNat).findIdx p = (l.take i.toNat).length := by
    rw [List.findIdx_eq_length]
    intro x hx
    have := hi.a
    rw [List.any_eq_false] at this
    simpa using this x hx
  have hlen : (l.take i.toNat).length = i.toNat := by rw [List.length_take]; omega
  generalize l.getD i.toNat z = y at hs hq
  rw [hs, List.findIdx_append, if_neg (by omega), List.findIdx_cons, hq]
  simp only [cond_true]
  omega
theorem idx_no {α : Type} {p : α → Bool} {l : List α} (h : l.any p = false) : -1 = idxZ p l := by
  unfold idxZ; rw [h]; rfl
theorem idx_lt {α : Type} {p : α → Bool} {l : List α} (h : 0 ≤ idxZ p l) : idxZ p l < l.length := by
  unfold idxZ at h ⊢
  cases ha : l.any p with
  | false => rw [ha] at h; simp at h
  | true =>
    simp only [cond_true]
    have := List.findIdx_lt_length.2 (List.any_eq_true.1 ha)
    omega
theorem okG_some {w : Wd} (h : okG (some (w, ())) = true) : okW w = true := by
  simpa [okG, glW] using h
theorem v27 : Vc g27 300 Tryd.f27 cDialP := by
  constructor
  rw [v27_eq]
  rintro ⟨o, b, ⟨⟩⟩
  cases o with
  | none => intro h; cases h.out
  | some w =>
  obtain ⟨w, ⟨⟩⟩ := w
  simp only [Wr_iff, bcase_iff, true_and, and_true, decide_eq_true_eq, decide_eq_false_iff_not, Bool.and_eq_true, Bool.and_eq_false_iff, Bool.or_eq_true, Bool.or_eq_false_iff, Bool.not_eq_true', Bool.not_eq_false', Option.map_some, Option.getD_some, Option.isSome_some, Option.isSome_map, imp_self, nilL, noneO]
  intro hx
  have hw := (okW_iff w).1 (okG_some hx)
  have hl : w.2.2.2.1.length ≤ 5000000000 := by omega
  have e : glW (some (w, ())) = w := rfl
  rw [e]
  refine ⟨by ((repeat' apply And.intro) <;> first | exact Nat.le_refl _ | exact IdxI.zero _ _ | exact UnlI.zero _ _ | assumption), fun i hu => ⟨fun hi => ⟨hu.i0, hi, fun hg => ?_, fun hg => ?_⟩, fun hi => ?_⟩⟩
  · exact congrArg (fun z : Int => (z, ())) (hu.idx DialT.zero hi (decide_eq_true hg))
  · obtain ⟨k1, k2⟩ := hu.on DialT.zero hl hi (decide_eq_false hg)
    ((repeat' apply And.intro) <;> first | exact Nat.le_refl _ | exact IdxI.zero _ _ | exact UnlI.zero _ _ | assumption)
  · exact congrArg (fun z : Int => (z, ())) (idx_no (hu.fin hi))
theorem dz : DialT.zero = zDl := rfl
theorem v34 : Vc g34 300 Tryd.f34 cReadyP := by
  constructor
  rw [v34_eq]
  rintro ⟨o, b, ⟨⟩⟩
  cases o with
  | none => intro h; cases h.out
  | some w =>
  obtain ⟨w, ⟨⟩⟩ := w
  simp only [Wr_iff, bcase_iff, true_and, and_true, decide_eq_true_eq, decide_eq_false_iff_not, Bool.and_eq_true, Bool.and_eq_false_iff, Bool.or_eq_true, Bool.or_eq_false_iff, Bool.not_eq_true', Bool.not_eq_false', Option.map_some, Option.getD_some, Option.isSome_some, Option.isSome_map, imp_self, nilL, noneO]
  intro hx
  have e : glW (some (w, ())) = w := rfl
  rw [e]
  have hlt : 0 ≤ ixD w.2.2.2.1 b → ixD w.2.2.2.1 b < w.2.2.2.1.length := idx_lt
  have hr : readyW w b = (decide (0 ≤ ixD w.2.2.2.1 b) && readyD (getDl w.2.2.2.1 (ixD w.2.2.2.1 b))) := rfl
  have hgd : getDl w.2.2.2.1 (ixD w.2.2.2.1 b) = w.2.2.2.1.getD (ixD w.2.2.2.1 b).toNat DialT.zero := rfl
  rw [hr, hgd]
  clear hr hgd
  have e2 : (some w.2.2.2.1).getD DialT.sl.zero = w.2.2.2.1 := rfl
  generalize (some w.2.2.2.1).getD DialT.sl.zero = l at e2 ⊢
  subst e2
  generalize ixD w.2.2.2.1 b = k at *
  generalize w.2.2.2.1.getD k.toNat DialT.zero = d
  refine ⟨hx, fun _ => trivial, fun _ => trivial, fun _ => trivial, fun _ => trivial, fun h => by omega, fun h => hlt (by omega), fun _ => trivial, fun _ => trivial, fun h => pr ?_, fun h => ⟨by omega, hlt (by omega), fun h0 => ⟨fun _ => pr ?_, fun hn => absurd h0 hn⟩, fun h0 => ⟨fun h1 => pr ?_, fun h1 => ⟨fun h2 => pr ?_, fun h2 => pr ?_⟩⟩⟩⟩
  · rcases h with h | h
    · rw [decide_eq_false (by omega)]; rfl
    · simp [readyD, overD, h]
  · simp only [readyD, overD, h.2, h0, decide_eq_true (show 0 ≤ k by omega)]; rfl
  · simp only [readyD, overD, h.2, h1, decide_eq_true (show 0 ≤ k by omega)]; rfl
  · simp only [readyD, overD, h.2, h2, decide_eq_true (show 0 ≤ k by omega)]
    simp
  · simp [readyD, overD, h.2, h0, h1, h2]
theorem v14 : Vc g14 300 Tryd.f14 cReady := by
  constructor
  rw [v14_eq]
  simp only [Wr_iff, bcase_iff, true_and, and_true, decide_eq_true_eq, decide_eq_false_iff_not, Bool.and_eq_true, Bool.and_eq_false_iff, Bool.or_eq_true, Bool.or_eq_false_iff, Bool.not_eq_true', Bool.not_eq_false', Option.map_some, Option.getD_some, Option.isSome_some, Option.isSome_map, imp_self, nilL, noneO]
  intro x hx
  exact ⟨by simpa [okG, glW] using hx, rfl⟩
/-! how many -/
theorem CntI.zero {α : Type} (p : α → Bool) (l : List α) : CntI p l 0 0 := ⟨by omega, by omega, rfl⟩
theorem cnt_le {α : Type} (p : α → Bool) (l : List α) (i : Int) : 0 ≤ cntB p l i ∧ cntB p l i ≤ l.length := by
  unfold cntB
  have h1 := List.length_filter_le p (l.take i.toNat)
  have h2 : (l.take i.toNat).length ≤ l.length := by rw [List.length_take]; omega
  omega
theorem CntI.next {α : Type} {p : α → Bool} {l : List α} {i n : Int} (z : α) (h : CntI p l i n) (hi : i < l.length) : cntB p l (i + 1) = n + (bif p (l.getD i.toNat z) then 1 else 0) := by
  rw [h.a]
  unfold cntB
  rw [take_succ l i z h.i0 hi, List.filter_append, List.length_append]
  generalize l.getD i.toNat z = y
  cases hp : p y <;> simp [List.filter_cons, hp]
theorem CntI.yes {α : Type} {p : α → Bool} {l : List α} {i n : Int} (z : α) (hl : l.length ≤ 5000000000) (h : CntI p l i n) (hi : i < l.length) (hp : p (l.getD i.toNat z) = true) :
    CntI p l (IntKind.wrap .i64 (i + 1)) (IntKind.wrap .i64 (n + 1)) ∧ l.length - (IntKind.wrap .i64 (i + 1)).toNat < l.length - i.toNat := by
  have h0 := h.i0
  have hb := cnt_le p l i
  have ha := h.a
  have hn := h.next z hi
  rw [hp] at hn
  rw [w64 (by omega) (by omega), w64 (n := n + 1) (by omega) (by omega)]
  exact ⟨⟨by omega, by omega, hn.symm⟩, by omega⟩
theorem CntI.no {α : Type} {p : α → Bool} {l : List α} {i n : Int} (z : α) (hl : l.length ≤ 5000000000) (h : CntI p l i n) (hi : i < l.length) (hp : p (l.getD i.toNat z) = false) :
    CntI p l (IntKind.wrap .i64 (i + 1)) n ∧ l.length - (IntKind.wrap .i64 (i + 1)).toNat < l.length - i.toNat := by
  have h0 := h.i0
  have hn := h.next z hi
  rw [hp] at hn
  rw [w64 (by omega) (by omega)]
  exact ⟨⟨by omega, by omega, by rw [hn]; simp⟩, by omega⟩
theorem CntI.fin {α : Type} {p : α → Bool} {l : List α} {i n : Int} (h : CntI p l i n) (hi : ¬ i < l.length) : n = (List.length (l.filter p) : Nat) := by
  have := h.a
  rw [this]
  unfold cntB
  rw [take_all h.i1 hi]
theorem eAd (a b : Ad) : Ty.eqb AdT a b = true ↔ a = b := eqA a b
theorem v55 : Vc g55 300 Tryd.f55 cHas := by
  constructor
  rw [v55_eq]
  simp only [Wr_iff, bcase_iff, true_and, and_true, decide_eq_true_eq, decide_eq_false_iff_not, Bool.and_eq_true, Bool.and_eq_false_iff, Bool.or_eq_true, Bool.or_eq_false_iff, Bool.not_eq_true', Bool.not_eq_false', Option.map_some, Option.getD_some, Option.isSome_some, Option.isSome_map, imp_self, nilL, noneO]
  rintro ⟨l, a, ⟨⟩⟩ hx
  have hl := (lenA_iff l).1 hx
  refine ⟨by ((repeat' apply And.intro) <;> first | exact Nat.le_refl _ | exact IdxI.zero _ _ | exact CntI.zero _ _ | assumption), fun i hu => ⟨fun hi => ⟨hu.i0, hi, fun hg => ?_, fun hg => ?_⟩, fun hi => ?_⟩⟩
  · refine pr ?_
    have h1 : eqAd a (l.getD i.toNat AdT.zero) = true := decide_eq_true ((eqA _ _).1 hg).symm
    have h2 := hu.hit (z := AdT.zero) hi h1
    exact (decide_eq_true hu.i0).trans h2.symm
  · have h1 : eqAd a (l.getD i.toNat AdT.zero) = false := decide_eq_false fun h => (eqA_f _ _).1 hg h.symm
    have hl' : l.length ≤ 5000000000 := by omega
    obtain ⟨k1, k2⟩ := hu.on AdT.zero hl' hi h1
    ((repeat' apply And.intro) <;> first | exact Nat.le_refl _ | exact IdxI.zero _ _ | exact CntI.zero _ _ | assumption)
  · refine pr ?_
    have h2 := hu.fin hi
    exact Eq.trans (by decide) h2.symm
theorem v23 : Vc g23 300 Tryd.f23 cUnder := by
  constructor
  rw [v23_eq]
  simp only [Wr_iff, bcase_iff, true_and, and_true, decide_eq_true_eq, decide_eq_false_iff_not, Bool.and_eq_true, Bool.and_eq_false_iff, Bool.or_eq_true, Bool.or_eq_false_iff, Bool.not_eq_true', Bool.not_eq_false', Option.map_some, Option.getD_some, Option.isSome_some, Option.isSome_map, imp_self, nilL, noneO]
  rintro ⟨w, l, ⟨⟩⟩ hx
  have hw := (okW_iff w).1 hx.1
  have hl' : w.2.2.2.1.length ≤ 5000000000 := by omega
  refine ⟨by ((repeat' apply And.intro) <;> first | exact Nat.le_refl _ | exact IdxI.zero _ _ | exact CntI.zero _ _ | assumption), fun ⟨i, n⟩ hu => ⟨fun hi => ⟨hu.i0, hi, fun _ => hx.2, fun hg => ?_, fun hg => ?_⟩, fun hi => ?_⟩⟩
  · have h1 : underB l (w.2.2.2.1.getD i.toNat DialT.zero) = true := by
      simp only [underB, overD, Bool.and_eq_true, Bool.or_eq_true, Bool.not_eq_true', decide_eq_true_eq]
      refine ⟨hg.1, ?_⟩
      rcases hg.2 with h | h
      · exact .inl (by simpa using h)
      · exact .inr h
    obtain ⟨k1, k2⟩ := hu.yes DialT.zero hl' hi h1
    ((repeat' apply And.intro) <;> first | exact Nat.le_refl _ | exact IdxI.zero _ _ | exact CntI.zero _ _ | assumption)
  · have h1 : underB l (w.2.2.2.1.getD i.toNat DialT.zero) = false := by
      simp only [underB, overD, Bool.and_eq_false_iff, Bool.or_eq_false_iff, Bool.not_eq_false', decide_eq_false_iff_not]
      rcases hg with h | ⟨h1, h2⟩
      · exact .inl h
      · exact .inr ⟨by simpa using h1, h2⟩
    obtain ⟨k1, k2⟩ := hu.no DialT.zero hl' hi h1
    ((repeat' apply And.intro) <;> first | exact Nat.le_refl _ | exact IdxI.zero _ _ | exact CntI.zero _ _ | assumption)
  · exact congrArg (fun z : Int => (z, ())) (hu.fin hi)
end Go.Proofs.YtfhlceooobabcaaDoor.Wd
set_option linter.all false
namespace Go.Proofs.YtfhlceooobabcaaDoor.Wd
open Go Go.Eng Go.Lb Go.Ad
set_option maxRecDepth 100000
set_option maxHeartbeats 4000000

theorem okG_of {w : Wd} (h : okW w = true) : okG (some (w, ())) = true := by simpa [okG, glW] using h
theorem v13 : Vc g13 300 Tryd.f13 cCut := by
  constructor
  rw [v13_eq]
  simp only [Wr_iff, bcase_iff, true_and, and_true, decide_eq_true_eq, decide_eq_false_iff_not, Bool.and_eq_true, Bool.and_eq_false_iff, Bool.or_eq_true, Bool.or_eq_false_iff, Bool.not_eq_true', Bool.not_eq_false', Option.map_some, Option.getD_some, Option.isSome_some, Option.isSome_map, imp_self, nilL, noneO]
  rintro ⟨w, b, ⟨⟩⟩ hx
  dsimp only at hx ⊢
  have hw := (okW_iff w).1 hx
  have e : glW (some (w, ())) = w := rfl
  rw [e]
  have hlt : 0 ≤ ixD w.2.2.2.1 b → ixD w.2.2.2.1 b < w.2.2.2.1.length := idx_lt
  have hc : cutW w b = (bif decide (0 ≤ ixD w.2.2.2.1 b) && !overD (getDl w.2.2.2.1 (ixD w.2.2.2.1 b)) then putDl w (setDl w.2.2.2.1 (ixD w.2.2.2.1 b) cutD) else w) := rfl
  refine ⟨okG_of hx, fun h => hlt h, fun _ => trivial, fun _ => trivial, fun h => ⟨by omega, h.1, hlt h.1, ?_⟩, fun h => ?_⟩
  · refine congrArg (fun z : Wd => (z, ())) ?_
    have h1 : overD (getDl w.2.2.2.1 (ixD w.2.2.2.1 b)) = false := h.2
    rw [hc, h1, decide_eq_true h.1]
    rfl
  · refine congrArg (fun z : Wd => (z, ())) ?_
    rw [hc]
    rcases h with h | h
    · rw [decide_eq_false h]; rfl
    · have h1 : overD (getDl w.2.2.2.1 (ixD w.2.2.2.1 b)) = true := h
      rw [h1, Bool.not_true, Bool.and_false]; rfl
theorem dialE_iff (w : Wd) (b : Int) (a : Ad) : dialE w b a = (bif may1 a then (bif decide (0 ≤ ixD w.2.2.2.1 b) then 100 else 0) else 20) := rfl
theorem v12 : Vc g12 300 Tryd.f12 cDial := by
  constructor
  rw [v12_eq]
  simp only [Wr_iff, bcase_iff, true_and, and_true, decide_eq_true_eq, decide_eq_false_iff_not, Bool.and_eq_true, Bool.and_eq_false_iff, Bool.or_eq_true, Bool.or_eq_false_iff, Bool.not_eq_true', Bool.not_eq_false', Option.map_some, Option.getD_some, Option.isSome_some, Option.isSome_map, imp_self, nilL, noneO]
  rintro ⟨w, b, a, ⟨⟩⟩ hx
  dsimp only at hx ⊢
  have hw := (okW_iff w).1 hx
  have e : glW (some (w, ())) = w := rfl
  rw [e]
  have hl' : w.2.2.2.1.length ≤ 5000000000 := by omega
  refine ⟨rfl, fun h => ?_, fun h => ⟨okG_of hx, fun h1 => ?_, fun h1 => ⟨by ((repeat' apply And.intro) <;> first | exact Nat.le_refl _ | exact IdxI.zero _ _ | exact CntI.zero _ _ | assumption), fun ⟨i, n⟩ hu => ⟨fun hi => ⟨hu.i0, hi, fun hg => ?_, fun hg => ?_⟩, fun hi => ⟨hw.2.2.2, ?_, ?_⟩⟩⟩⟩⟩
  · have h2 : may1 a = false := by rw [← may_one]; exact h
    have h3 : dialE w b a = 20 := by rw [dialE_iff, h2]; rfl
    rw [dialW, h3]; rfl
  · have h2 : may1 a = true := by rw [← may_one]; exact h
    have h3 : dialE w b a = 100 := by rw [dialE_iff, h2, decide_eq_true h1]; rfl
    rw [dialW, h3]; rfl
  · have q : dlAd a (w.2.2.2.1.getD i.toNat DialT.zero) = true := decide_eq_true ((eAd _ _).1 hg)
    obtain ⟨k1, k2⟩ := hu.yes DialT.zero hl' hi q
    ((repeat' apply And.intro) <;> first | exact Nat.le_refl _ | exact IdxI.zero _ _ | exact CntI.zero _ _ | assumption)
  · have q : dlAd a (w.2.2.2.1.getD i.toNat DialT.zero) = false := decide_eq_false ((eqA_f _ _).1 hg)
    obtain ⟨k1, k2⟩ := hu.no DialT.zero hl' hi q
    ((repeat' apply And.intro) <;> first | exact Nat.le_refl _ | exact IdxI.zero _ _ | exact CntI.zero _ _ | assumption)
  · simp only [List.length_cons, List.length_nil]; omega
  · have h2 : may1 a = true := by rw [← may_one]; exact h
    have h3 : dialE w b a = 0 := by rw [dialE_iff, h2, decide_eq_false h1]; rfl
    have h4 : n = nthD w.2.2.2.1 a := hu.fin hi
    rw [dialW, h3, ← h4]; exact ⟨by simp, rfl⟩
theorem get_set {l : List Dl} {i : Int} {d : Dl} (h0 : 0 ≤ i) (h : i < l.length) : (l.set i.toNat d).getD i.toNat zDl = d := by
  rw [List.getD_eq_getElem?_getD, List.getElem?_set_self (by omega)]
  rfl
theorem v15 : Vc g15 300 Tryd.f15 cEnd := by
  constructor
  rw [v15_eq]
  simp only [Wr_iff, bcase_iff, true_and, and_true, decide_eq_true_eq, decide_eq_false_iff_not, Bool.and_eq_true, Bool.and_eq_false_iff, Bool.or_eq_true, Bool.or_eq_false_iff, Bool.not_eq_true', Bool.not_eq_false', Option.map_some, Option.getD_some, Option.isSome_some, Option.isSome_map, imp_self, nilL, noneO]
  rintro ⟨w, b, ⟨⟩⟩ hx
  dsimp only at hx ⊢
  have hw := (okW_iff w).1 hx
  have e : glW (some (w, ())) = w := rfl
  rw [e]
  have hlt : 0 ≤ ixD w.2.2.2.1 b → ixD w.2.2.2.1 b < w.2.2.2.1.length := idx_lt
  refine ⟨okG_of hx, fun h => ?_, fun h => ⟨okG_of hx, by omega, ?_⟩⟩
  · rw [endW, endM, endE, h]; rfl
  · have h0 : 0 ≤ ixD w.2.2.2.1 b := by
      unfold readyW at h
      simp only [Bool.and_eq_true, decide_eq_true_eq] at h
      exact h.1
    have h1 := hlt h0
    have q : (endDs w b).getD (ixD w.2.2.2.1 b).toNat zDl = endD (getDl w.2.2.2.1 (ixD w.2.2.2.1 b)) := get_set h0 h1
    have h2 : ixD w.2.2.2.1 b < ((endDs w b).length : Int) := by
      unfold endDs setDl; rw [List.length_set]; exact h1
    have hE : endE w b = 0 := by rw [endE, h]; rfl
    refine ⟨h0, h1, h0, h2, fun hf => ⟨h0, h2, ?_, ?_⟩, fun hf => ?_⟩
    · simp only [okSM, Bool.and_eq_true, decide_eq_true_eq]; exact ⟨hw.2.1, hw.2.2.1⟩
    · have hf' : fateOf w b = 0 := (congrArg (fun z : Dl => z.2.2.1) q).symm.trans hf
      have hW : endW w b = (w.1, w.2.1, addS w.2.2.1 ((endDs w b).getD (ixD w.2.2.2.1 b).toNat zDl).2.1 b w.2.1, endDs w b, w.2.2.2.2.1, w.2.2.2.2.2.1, addM w.2.2.2.2.2.2.1 false (lenS w.2.2.1) w.2.1, ()) := by
        rw [q, endW, h, hf']; rfl
      have hM : endM w b = (11, 0, 0, lenS w.2.2.1, { data := #[] }, 0, ()) := by rw [endM, h, hf']; rfl
      rw [hW, hM, hE]; rfl
    · have hf' : ¬ fateOf w b = 0 := fun e => hf ((congrArg (fun z : Dl => z.2.2.1) q).trans e)
      have hW : endW w b = putDl w (endDs w b) := by rw [endW, h, decide_eq_false hf']; rfl
      have hM : endM w b = (11, 0, 0, 0, { data := #[] }, 160, ()) := by rw [endM, h, decide_eq_false hf']; rfl
      rw [hW, hM, hE]; rfl
end Go.Proofs.YtfhlceooobabcaaDoor.Wd
namespace Go.Proofs.YtfhlceooobabcaaDoor.Wd
open Go Go.Eng Go.Lb Go.Ad
set_option maxRecDepth 100000
theorem val30 : Valid Tryd.prog GW 30 (cClip DialT) := mkValid gws Tb.mix Tb.tab_ok Tb.eqs_ok g30 rfl allV_nil allI_nil Tryd.func30 (by kernel_rfl) v30
theorem val61 : Valid Tryd.prog GW 61 (cClip SockT) := mkValid gws Tb.mix Tb.tab_ok Tb.eqs_ok g61 rfl allV_nil allI_nil Tryd.func61 (by kernel_rfl) v61
theorem val62 : Valid Tryd.prog GW 62 (cClip MarkT) := mkValid gws Tb.mix Tb.tab_ok Tb.eqs_ok g62 rfl allV_nil allI_nil Tryd.func62 (by kernel_rfl) v62
theorem val60 : Valid Tryd.prog GW 60 (cClone 83 48 DialT) := mkValid gws Tb.mix Tb.tab_ok Tb.eqs_ok g60 rfl allV_nil allI_nil Tryd.func60 (by kernel_rfl) v60
theorem val6 : Valid Tryd.prog GW 6 cNew := mkValid gws Tb.mix Tb.tab_ok Tb.eqs_ok g6 rfl (allV_cons val18 allV_nil) allI_nil Tryd.func6 (by kernel_rfl) v6
theorem val27 : Valid Tryd.prog GW 27 cDialP := mkValid gws Tb.mix Tb.tab_ok Tb.eqs_ok g27 rfl allV_nil (allI_cons Tryd.func56 (by kernel_rfl) (allI_cons Tryd.func57 (by kernel_rfl) (allI_cons Tryd.func79 (by kernel_rfl) allI_nil))) Tryd.func27 (by kernel_rfl) v27
theorem val34 : Valid Tryd.prog GW 34 cReadyP := mkValid gws Tb.mix Tb.tab_ok Tb.eqs_ok g34 rfl (allV_cons val27 allV_nil) allI_nil Tryd.func34 (by kernel_rfl) v34
theorem val12 : Valid Tryd.prog GW 12 cDial := mkValid gws Tb.mix Tb.tab_ok Tb.eqs_ok g12 rfl (allV_cons val26 (allV_cons val27 (allV_cons val30 (allV_cons val31 allV_nil)))) (allI_cons Tryd.func28 (by kernel_rfl) (allI_cons Tryd.func29 (by kernel_rfl) allI_nil)) Tryd.func12 (by kernel_rfl) v12
theorem val13 : Valid Tryd.prog GW 13 cCut := mkValid gws Tb.mix Tb.tab_ok Tb.eqs_ok g13 rfl (allV_cons val27 (allV_cons val60 allV_nil)) (allI_cons Tryd.func32 (by kernel_rfl) (allI_cons Tryd.func33 (by kernel_rfl) allI_nil)) Tryd.func13 (by kernel_rfl) v13
theorem val14 : Valid Tryd.prog GW 14 cReady := mkValid gws Tb.mix Tb.tab_ok Tb.eqs_ok g14 rfl (allV_cons val34 allV_nil) allI_nil Tryd.func14 (by kernel_rfl) v14
theorem val36 : Valid Tryd.prog GW 36 cOpen := mkValid gws Tb.mix Tb.tab_ok Tb.eqs_ok g36 rfl (allV_cons val61 (allV_cons val62 allV_nil)) allI_nil Tryd.func36 (by kernel_rfl) v36
theorem val15 : Valid Tryd.prog GW 15 cEnd := mkValid gws Tb.mix Tb.tab_ok Tb.eqs_ok g15 rfl (allV_cons val27 (allV_cons val34 (allV_cons val36 (allV_cons val60 allV_nil)))) (allI_cons Tryd.func32 (by kernel_rfl) (allI_cons Tryd.func35 (by kernel_rfl) allI_nil)) Tryd.func15 (by kernel_rfl) v15
theorem val55 : Valid Tryd.prog GW 55 cHas := mkValid gws Tb.mix Tb.tab_ok Tb.eqs_ok g55 rfl allV_nil (allI_cons Tryd.func78 (by kernel_rfl) allI_nil) Tryd.func55 (by kernel_rfl) v55
theorem val23 : Valid Tryd.prog GW 23 cUnder := mkValid gws Tb.mix Tb.tab_ok Tb.eqs_ok g23 rfl (allV_cons val55 allV_nil) (allI_cons Tryd.func28 (by kernel_rfl) (allI_cons Tryd.func54 (by kernel_rfl) allI_nil)) Tryd.func23 (by kernel_rfl) v23
end Go.Proofs.YtfhlceooobabcaaDoor.Wd
set_option maxRecDepth 100000
namespace Go.Proofs.YtfhlceooobabcaaDoor.Wd
open Go Go.Eng Go.Lb Go.Ad
def cMay1 : Contract := conD (.cons AdT .unit) (.cons .bool .unit) (fun _ => true) fun x => (may1 x.1, ())
structure May2I (a : Ad) (i : Int) : Prop where
  i0 : 2 ≤ i
  i1 : i ≤ 8
  z : a.1 = 4 → ∀ k : Nat, 2 ≤ k → (k : Int) < i → (gl a.2.1).getD k 0 = 0
def may2L : LoopAnn where
  α := Int
  keep := [1]
  okeep := [0]
  nxt := 30
  env := fun _ x => [(3, .dat I64 x)]
  own := fun _ _ => []
  inv := fun s x => May2I (cDat AdT s 1 0).out x
  mu := fun _ x => 8 - x.toNat
  pick := some fun _ s => (bDat I64 s 3).out
def mayRL : LoopAnn where
  α := Int
  keep := [0]
  okeep := []
  nxt := 30
  env := fun _ x => [(3, .dat I64 x)]
  own := fun _ _ => []
  inv := fun s x => MayI (bDat AdL s 0).out x
  mu := fun s x => List.length (α := Ad) (bDat AdL s 0).out - x.toNat
  pick := some fun _ s => (bDat I64 s 3).out
/-! the document's -/
def goodA (p : Pl) (a : Ad) : Bool := !decide ((fateRow p a).length = 0) && (fateRow p a).all (fun x => decide (x = 0))
def cRowIx : Contract := conD (.cons PlanT (.cons AdT .unit)) (.cons I64 .unit) (fun x => okP x.1) fun x => (idxZ (adIs x.2.1) x.1.2.1, ())
def nthZ (m n : Int) : Int := min (max n 0) (m - 1)
def cNth : Contract := conD (.cons I64 (.cons I64 .unit)) (.cons I64 .unit) (fun x => decide ((0 : Int) ≤ x.1) && decide (x.1 ≤ (1000000 : Int))) fun x => (nthZ x.1 x.2.1, ())
def cGood : Contract := conD (.cons PlanT (.cons AdL .unit)) (.cons .bool .unit) (fun x => okP x.1 && lenA x.2.1) fun x => (List.all (α := Ad) x.2.1 (goodA x.1), ())
structure RowI (p : Pl) (a : Ad) (i : Int) : Prop where
  h : IdxI (adIs a) p.2.1 i
def rowL : LoopAnn where
  α := Int
  keep := [2, 3]
  okeep := [0, 1]
  nxt := 30
  env := fun _ x => [(5, .dat I64 x)]
  own := fun _ _ => []
  inv := fun s x => IdxI (adIs (cDat AdT s 3 0).out) (cDat (.sl FatT) s 2 1).out x
  mu := fun s x => List.length (α := Ft) (cDat (.sl FatT) s 2 1).out - x.toNat
  pick := some fun _ s => (bDat I64 s 5).out
def goodL : LoopAnn where
  α := Int
  keep := [1, 2]
  okeep := [0]
  nxt := 30
  env := fun _ x => [(5, .dat I64 x)]
  own := fun _ _ => []
  inv := fun s x => IdxI (notB (goodA (cDat PlanT s 2 0).out)) (bDat AdL s 1).out x
  mu := fun s x => List.length (α := Ad) (bDat AdL s 1).out - x.toNat
  pick := some fun _ s => (bDat I64 s 5).out
/-- a row of fates, gone through -/
structure FatsI (p : Pl) (l : List Ad) (i k j : Int) : Prop where
  o : IdxI (notB (goodA p)) l i
  i1 : i < l.length
  ke : k = idxZ (adIs (l.getD i.toNat AdT.zero)) p.2.1
  k0 : 0 ≤ k
  n : (fateRow p (l.getD i.toNat AdT.zero)).length ≠ 0
  j0 : 0 ≤ j
  j1 : j ≤ (fateRow p (l.getD i.toNat AdT.zero)).length
  a : ((fateRow p (l.getD i.toNat AdT.zero)).take j.toNat).all (fun x => decide (x = 0)) = true
def goodL2 : LoopAnn where
  α := Int
  keep := [1, 2, 5, 6]
  okeep := [0]
  nxt := 40
  env := fun _ x => [(7, .dat I64 x)]
  own := fun _ _ => []
  inv := fun s x => FatsI (cDat PlanT s 2 0).out (bDat AdL s 1).out (bDat I64 s 5).out (bDat I64 s 6).out x
  mu := fun s x => 1000000 - x.toNat
  pick := some fun _ s => (bDat I64 s 7).out
/-! the law -/
def cWk : Contract := { a := .unit, r := .cons .bool .unit, pre := fun _ => True, F := fun _ => (true, ()) }
def cLw (a : Ty) : Contract := { a := a, r := .cons .bool .unit, pre := fun _ => True, F := fun _ => (true, ()), preB := fun _ => true, preOk := fun _ _ => trivial }
abbrev aFates : Ty := .cons PlanT (.cons AdT (.cons (.sl .bool) .unit))
def gr1 : LoopAnn where
  α := Int × Int
  keep := [1]
  okeep := []
  nxt := 2000
  env := fun _ x => [(3, .dat I64 x.1), (4, .dat I64 x.2)]
  own := fun s _ => boxO s 1
  inv := fun _ x => 0 ≤ x.2
  mu := fun s x => List.length (α := Zn) (cDat (.sl ZoneT) s 1 0).out - x.2.toNat
  pick := some fun _ s => ((bDat I64 s 3).out, (bDat I64 s 4).out)
structure Gr2I (zs : List Zn) (i k : Int) : Prop where
  i0 : 0 ≤ i
  i1 : i < zs.length
  i2 : i ≤ 40
  k0 : 0 ≤ k
  m : (zs.getD i.toNat ZoneT.zero).2.1.length ≤ 60
def gr2 : LoopAnn where
  α := Int × Int
  keep := [1, 4]
  okeep := []
  nxt := 2500
  env := fun _ x => [(3, .dat I64 x.1), (5, .dat I64 x.2)]
  own := fun s _ => boxO s 1
  inv := fun s x => Gr2I (cDat (.sl ZoneT) s 1 0).out (bDat I64 s 4).out x.2
  mu := fun s x => 100 - x.2.toNat
  pick := some fun _ s => ((bDat I64 s 3).out, (bDat I64 s 5).out)
def gr3 : LoopAnn where
  α := Int × Int
  keep := [1]
  okeep := []
  nxt := 3000
  env := fun _ x => [(3, .dat I64 x.1), (6, .dat I64 x.2)]
  own := fun s _ => boxO s 1
  inv := fun _ x => 0 ≤ x.2
  mu := fun s x => List.length (α := Ft) (cDat (.sl FatT) s 1 1).out - x.2.toNat
  pick := some fun _ s => ((bDat I64 s 3).out, (bDat I64 s 6).out)
/-- where the law's loop stands -/
structure FtS where
  i : Int
  w : Wd
structure FtI (p : Pl) (a : Ad) (cut : List Bool) (good none_ : Bool) (x : FtS) : Prop where
  c : checkB p = true
  ma : may1 a = true
  n : cut.length ≤ 40
  g : good = goodA p a
  no : none_ = true → p.2.1 = []
  i0 : 0 ≤ x.i
  i1 : x.i ≤ cut.length
  pl : x.w.1 = p
  by_ : ∀ d ∈ x.w.2.2.2.1, d.1 < x.i
  nd : (x.w.2.2.2.1.length : Int) ≤ x.i
  ns : (x.w.2.2.1.length : Int) ≤ x.i
  nm : (x.w.2.2.2.2.2.2.1.length : Int) ≤ x.i
def fatesL : LoopAnn where
  α := FtS
  keep := [2, 3, 4, 9, 10]
  okeep := [0, 1]
  nxt := 5000
  env := fun _ x => [(7, .pt 4000 0), (11, .dat I64 x.i)]
  own := fun _ x => [(4000, .cells 38 (leaves WorldT x.w))]
  inv := fun s x => FtI (cDat PlanT s 3 0).out (cDat AdT s 4 0).out (bDat (.sl .bool) s 2).out (bDat .bool s 9).out (bDat .bool s 10).out x
  mu := fun s x => List.length (α := Bool) (bDat (.sl .bool) s 2).out - x.i.toNat
  pick := some fun _ s => ⟨(bDat I64 s 11).out, (cDat WorldT s 7 0).out⟩
end Go.Proofs.YtfhlceooobabcaaDoor.Wd
namespace Go.Proofs.YtfhlceooobabcaaDoor.Wd
open Go Go.Eng Go.Lb Go.Ad
set_option maxRecDepth 100000
noncomputable def g21 : Cfg := { tab := Tb.tab, cons := [], inls := [], loops := [(4, may2L)], cuts := [], unroll := false, arrs := [], keys := [] }
noncomputable def g8 : Cfg := { tab := Tb.tab, cons := [(21, cMay1)], inls := [], loops := [(2, mayRL)], cuts := [], unroll := false, arrs := [], keys := [] }
noncomputable def g24 : Cfg := { tab := Tb.tab, cons := [], inls := [], loops := [(2, rowL)], cuts := [], unroll := false, arrs := [], keys := [] }
noncomputable def g25 : Cfg := { tab := Tb.tab, cons := [], inls := [], loops := [], cuts := [], unroll := false, arrs := [], keys := [] }
noncomputable def g10 : Cfg := { tab := Tb.tab, cons := [(24, cRowIx)], inls := [], loops := [(2, goodL), (8, goodL2)], cuts := [], unroll := false, arrs := [], keys := [] }
noncomputable def g11 : Cfg := { tab := Tb.tab, cons := [(24, cRowIx), (25, cNth)], inls := [], loops := [], cuts := [], unroll := false, arrs := [], keys := [] }
noncomputable def g9 : Cfg := { tab := Tb.tab, cons := [(6, cNew), (12, cDial), (13, cCut), (14, cReady), (15, cEnd), (23, cUnder)], inls := [(22, Tryd.f22)], loops := [], cuts := [], unroll := true, arrs := [], keys := [] }
noncomputable def g3 : Cfg := { tab := Tb.tab, cons := [(6, cNew), (8, cMay), (9, cWk), (10, cGood), (11, cFate), (12, cDial), (13, cCut), (14, cReady), (15, cEnd)], inls := [(7, Tryd.f7)], loops := [(80003, gr1), (80008, gr2), (80012, gr3), (7, fatesL)], cuts := [], unroll := false, arrs := [], keys := [] }
end Go.Proofs.YtfhlceooobabcaaDoor.Wd

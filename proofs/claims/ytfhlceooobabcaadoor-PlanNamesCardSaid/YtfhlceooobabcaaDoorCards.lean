/-
  DERIVED. GIVEN WITH THE SEED: THE CARDS: each row of YtfhlceooobabcaaDoorRows.lean that lists a variable, with what it lists TIED to the program's text (the seventh form; the later family's looks); each row that meets fmt, with fmt's text TOLD by the authors' own Lean function (tested against real Go, not proved from fmt's source: count such statements apart). THE CARD IS WHAT COUNTS. Prove the row's statement (the work); the ties are given (YtfhlceooobabcaaDoorTie.lean); close each card by the builder's one call (the guide's Derived/Test/ToyasCard.lean, 'card_holds'). Laid BY PROGRAM, IN A SANDBOX (cutbox-door.mjs). By AI agents, Wed Nov 11 2026. No macro, syntax, notation, axiom, sorry.
-/
import Derived.Test.YtfhlceooobabcaaDoorRows
import GoSem.ClaimSeven
namespace Go.Proofs.YtfhlceooobabcaaDoor
namespace Rows

/-- THE TIED CARD OF 'switchboardlaw10.WorldFates'. -/
def worldFatesCard : Claim7 := { stood := { row := worldFatesRow, standIns := [], harness := (true, "9f20d22018cdde08525f08b40880c1e665d2badf73127c0894f83829ba97b7ff"), looks := true }, kinds := [], alts := [], laidByText := true, laidKinds := [.data, .pinned], laidTests := true, laidLooks := .later }
def WorldFatesCardSaid : Prop := Claim7.holds Tryd.pinned (.plain (OpenSpec.ofChange worldFatesSpec)) worldFatesCard

/-- THE TIED CARD OF 'switchboardlaw09.PlanNames'. -/
def planNamesCard : Claim7 := { stood := { row := planNamesRow, standIns := [], harness := (true, "9f20d22018cdde08525f08b40880c1e665d2badf73127c0894f83829ba97b7ff"), looks := true }, kinds := [], alts := [], laidByText := true, laidKinds := [.data, .pinned], laidTests := true, laidLooks := .later }
def PlanNamesCardSaid : Prop := Claim7.holds Tryd.pinned (.plain (OpenSpec.ofChange planNamesSpec)) planNamesCard

/-- THE TIED CARD OF 'switchboardlaw09.PlanLess'. -/
def planLessCard : Claim7 := { stood := { row := planLessRow, standIns := [], harness := (true, "9f20d22018cdde08525f08b40880c1e665d2badf73127c0894f83829ba97b7ff"), looks := true }, kinds := [], alts := [], laidByText := true, laidKinds := [.data, .pinned], laidTests := true, laidLooks := .later }
def PlanLessCardSaid : Prop := Claim7.holds Tryd.pinned (.plain (OpenSpec.ofChange planLessSpec)) planLessCard

/-- THE SECOND FORM's CARD OF 'switchboardlaw10.WorldFates'. -/
def worldFatesUptoCard : Claim7 := { stood := { row := worldFatesUptoRow, standIns := [], harness := (true, "9f20d22018cdde08525f08b40880c1e665d2badf73127c0894f83829ba97b7ff"), looks := true }, kinds := [], alts := [], laidByText := true, laidKinds := [.data, .pinned], laidTests := true, laidLooks := .later }
def WorldFatesUptoCardSaid : Prop := Claim7.holds Tryd.pinned (.plain (OpenSpec.upto worldFatesSpec)) worldFatesUptoCard

/-- THE SECOND FORM's CARD OF 'switchboardlaw09.PlanNames'. -/
def planNamesUptoCard : Claim7 := { stood := { row := planNamesUptoRow, standIns := [], harness := (true, "9f20d22018cdde08525f08b40880c1e665d2badf73127c0894f83829ba97b7ff"), looks := true }, kinds := [], alts := [], laidByText := true, laidKinds := [.data, .pinned], laidTests := true, laidLooks := .later }
def PlanNamesUptoCardSaid : Prop := Claim7.holds Tryd.pinned (.plain (OpenSpec.upto planNamesSpec)) planNamesUptoCard

/-- THE SECOND FORM's CARD OF 'switchboardlaw09.PlanLess'. -/
def planLessUptoCard : Claim7 := { stood := { row := planLessUptoRow, standIns := [], harness := (true, "9f20d22018cdde08525f08b40880c1e665d2badf73127c0894f83829ba97b7ff"), looks := true }, kinds := [], alts := [], laidByText := true, laidKinds := [.data, .pinned], laidTests := true, laidLooks := .later }
def PlanLessUptoCardSaid : Prop := Claim7.holds Tryd.pinned (.plain (OpenSpec.upto planLessSpec)) planLessUptoCard
end Rows
end Go.Proofs.YtfhlceooobabcaaDoor

/-
  DERIVED. GIVEN WITH THE SEED: THE CARDS: each row of YtfhlceooobabcaaGreatDoorRows.lean that lists a variable, with what it lists TIED to the program's text (the seventh form; the later family's looks); each row that meets fmt, with fmt's text TOLD by the authors' own Lean function (tested against real Go, not proved from fmt's source: count such statements apart). THE CARD IS WHAT COUNTS. Prove the row's statement (the work); the ties are given (YtfhlceooobabcaaGreatDoorTie.lean); close each card by the builder's one call (the guide's Derived/Test/ToyasCard.lean, 'card_holds'). Laid BY PROGRAM, IN A SANDBOX (cutbox-door.mjs). By AI agents, Wed Nov 11 2026. No macro, syntax, notation, axiom, sorry.
-/
import Derived.Test.YtfhlceooobabcaaGreatDoorRows
import GoSem.ClaimSeven
namespace Go.Proofs.YtfhlceooobabcaaGreatDoor
namespace Rows

/-- THE TIED CARD OF 'switchboardlaw10.WorldPlans'. -/
def worldPlansCard : Claim7 := { stood := { row := worldPlansRow, standIns := [], harness := (true, "01f8af530717d3e78727a721bfd0f1497cbc42ad872b1486f705959b8c1f83cb"), looks := true }, kinds := [], alts := [], laidByText := true, laidKinds := [.data, .pinned], laidTests := true, laidLooks := .later }
def WorldPlansCardSaid : Prop := Claim7.holds Tryz.pinned (.plain (OpenSpec.ofChange worldPlansSpec)) worldPlansCard

/-- THE TIED CARD OF 'switchboardlaw10.WorldPlays'. -/
def worldPlaysCard : Claim7 := { stood := { row := worldPlaysRow, standIns := [], harness := (true, "01f8af530717d3e78727a721bfd0f1497cbc42ad872b1486f705959b8c1f83cb"), looks := true }, kinds := [], alts := [], laidByText := true, laidKinds := [.data, .pinned], laidTests := true, laidLooks := .later }
def WorldPlaysCardSaid : Prop := Claim7.holds Tryz.pinned (.plain (OpenSpec.ofChange worldPlaysSpec)) worldPlaysCard

/-- THE TIED CARD OF 'switchboardlaw09.PlanStays'. -/
def planStaysCard : Claim7 := { stood := { row := planStaysRow, standIns := [], harness := (true, "01f8af530717d3e78727a721bfd0f1497cbc42ad872b1486f705959b8c1f83cb"), looks := true }, kinds := [], alts := [], laidByText := true, laidKinds := [.data, .pinned], laidTests := true, laidLooks := .later }
def PlanStaysCardSaid : Prop := Claim7.holds Tryz.pinned (.plain (OpenSpec.ofChange planStaysSpec)) planStaysCard

/-- THE TIED CARD OF 'switchboardlaw10.WorldAnswers'. -/
def worldAnswersCard : Claim7 := { stood := { row := worldAnswersRow, standIns := [], harness := (true, "01f8af530717d3e78727a721bfd0f1497cbc42ad872b1486f705959b8c1f83cb"), looks := true }, kinds := [], alts := [], laidByText := true, laidKinds := [.data, .data, .data, .data, .pinned], laidTests := true, laidLooks := .later }
def WorldAnswersCardSaid : Prop := Claim7.holds Tryz.pinned (.plain (OpenSpec.ofChange worldAnswersSpec)) worldAnswersCard

/-- THE SECOND FORM's CARD OF 'switchboardlaw10.WorldPlans'. -/
def worldPlansUptoCard : Claim7 := { stood := { row := worldPlansUptoRow, standIns := [], harness := (true, "01f8af530717d3e78727a721bfd0f1497cbc42ad872b1486f705959b8c1f83cb"), looks := true }, kinds := [], alts := [], laidByText := true, laidKinds := [.data, .pinned], laidTests := true, laidLooks := .later }
def WorldPlansUptoCardSaid : Prop := Claim7.holds Tryz.pinned (.plain (OpenSpec.upto worldPlansSpec)) worldPlansUptoCard

/-- THE SECOND FORM's CARD OF 'switchboardlaw10.WorldPlays'. -/
def worldPlaysUptoCard : Claim7 := { stood := { row := worldPlaysUptoRow, standIns := [], harness := (true, "01f8af530717d3e78727a721bfd0f1497cbc42ad872b1486f705959b8c1f83cb"), looks := true }, kinds := [], alts := [], laidByText := true, laidKinds := [.data, .pinned], laidTests := true, laidLooks := .later }
def WorldPlaysUptoCardSaid : Prop := Claim7.holds Tryz.pinned (.plain (OpenSpec.upto worldPlaysSpec)) worldPlaysUptoCard

/-- THE SECOND FORM's CARD OF 'switchboardlaw09.PlanStays'. -/
def planStaysUptoCard : Claim7 := { stood := { row := planStaysUptoRow, standIns := [], harness := (true, "01f8af530717d3e78727a721bfd0f1497cbc42ad872b1486f705959b8c1f83cb"), looks := true }, kinds := [], alts := [], laidByText := true, laidKinds := [.data, .pinned], laidTests := true, laidLooks := .later }
def PlanStaysUptoCardSaid : Prop := Claim7.holds Tryz.pinned (.plain (OpenSpec.upto planStaysSpec)) planStaysUptoCard

/-- THE SECOND FORM's CARD OF 'switchboardlaw10.WorldAnswers'. -/
def worldAnswersUptoCard : Claim7 := { stood := { row := worldAnswersUptoRow, standIns := [], harness := (true, "01f8af530717d3e78727a721bfd0f1497cbc42ad872b1486f705959b8c1f83cb"), looks := true }, kinds := [], alts := [], laidByText := true, laidKinds := [.data, .data, .data, .data, .pinned], laidTests := true, laidLooks := .later }
def WorldAnswersUptoCardSaid : Prop := Claim7.holds Tryz.pinned (.plain (OpenSpec.upto worldAnswersSpec)) worldAnswersUptoCard
end Rows
end Go.Proofs.YtfhlceooobabcaaGreatDoor

/-
  DERIVED. GIVEN WITH THE SEED: THE CARDS: each row of YtdkcgcgefgeooaaGreatDoorRows.lean that lists a variable, with what it lists TIED to the program's text (the seventh form; the later family's looks); each row that meets fmt, with fmt's text TOLD by the authors' own Lean function (tested against real Go, not proved from fmt's source: count such statements apart). THE CARD IS WHAT COUNTS. Prove the row's statement (the work); the ties are given (YtdkcgcgefgeooaaGreatDoorTie.lean); close each card by the builder's one call (the guide's Derived/Test/ToyasCard.lean, 'card_holds'). Laid BY PROGRAM, IN A SANDBOX (cutbox-door.mjs). By AI agents, Wed Nov 11 2026. No macro, syntax, notation, axiom, sorry.
-/
import Derived.Test.YtdkcgcgefgeooaaGreatDoorRows
import GoSem.ClaimSeven
namespace Go.Proofs.YtdkcgcgefgeooaaGreatDoor
namespace Rows

/-- THE TIED CARD OF 'switchboardlaw25.OwnerOnce'. -/
def ownerOnceCard : Claim7 := { stood := { row := ownerOnceRow, standIns := [], harness := (true, "a625469d2719b808833c08fcc39326631332450564dd16e0193a4c90f55639d4"), looks := false }, kinds := [], alts := [], laidByText := true, laidKinds := [.data, .pinned], laidTests := true, laidLooks := .later }
def OwnerOnceCardSaid : Prop := Claim7.holds Tryz.pinned (.plain (OpenSpec.ofChange ownerOnceSpec)) ownerOnceCard

/-- THE TIED CARD OF 'switchboardlaw25.OwnerEnds'. -/
def ownerEndsCard : Claim7 := { stood := { row := ownerEndsRow, standIns := [], harness := (true, "a625469d2719b808833c08fcc39326631332450564dd16e0193a4c90f55639d4"), looks := false }, kinds := [], alts := [], laidByText := true, laidKinds := [.data, .pinned], laidTests := true, laidLooks := .later }
def OwnerEndsCardSaid : Prop := Claim7.holds Tryz.pinned (.plain (OpenSpec.ofChange ownerEndsSpec)) ownerEndsCard

/-- THE TIED CARD OF 'switchboardlaw25.OwnerServes'. -/
def ownerServesCard : Claim7 := { stood := { row := ownerServesRow, standIns := [], harness := (true, "a625469d2719b808833c08fcc39326631332450564dd16e0193a4c90f55639d4"), looks := false }, kinds := [], alts := [], laidByText := true, laidKinds := [.data, .pinned], laidTests := true, laidLooks := .later }
def OwnerServesCardSaid : Prop := Claim7.holds Tryz.pinned (.plain (OpenSpec.ofChange ownerServesSpec)) ownerServesCard

/-- THE SECOND FORM's CARD OF 'switchboardlaw25.OwnerOnce'. -/
def ownerOnceUptoCard : Claim7 := { stood := { row := ownerOnceUptoRow, standIns := [], harness := (true, "a625469d2719b808833c08fcc39326631332450564dd16e0193a4c90f55639d4"), looks := false }, kinds := [], alts := [], laidByText := true, laidKinds := [.data, .pinned], laidTests := true, laidLooks := .later }
def OwnerOnceUptoCardSaid : Prop := Claim7.holds Tryz.pinned (.plain (OpenSpec.upto ownerOnceSpec)) ownerOnceUptoCard

/-- THE SECOND FORM's CARD OF 'switchboardlaw25.OwnerEnds'. -/
def ownerEndsUptoCard : Claim7 := { stood := { row := ownerEndsUptoRow, standIns := [], harness := (true, "a625469d2719b808833c08fcc39326631332450564dd16e0193a4c90f55639d4"), looks := false }, kinds := [], alts := [], laidByText := true, laidKinds := [.data, .pinned], laidTests := true, laidLooks := .later }
def OwnerEndsUptoCardSaid : Prop := Claim7.holds Tryz.pinned (.plain (OpenSpec.upto ownerEndsSpec)) ownerEndsUptoCard

/-- THE SECOND FORM's CARD OF 'switchboardlaw25.OwnerServes'. -/
def ownerServesUptoCard : Claim7 := { stood := { row := ownerServesUptoRow, standIns := [], harness := (true, "a625469d2719b808833c08fcc39326631332450564dd16e0193a4c90f55639d4"), looks := false }, kinds := [], alts := [], laidByText := true, laidKinds := [.data, .pinned], laidTests := true, laidLooks := .later }
def OwnerServesUptoCardSaid : Prop := Claim7.holds Tryz.pinned (.plain (OpenSpec.upto ownerServesSpec)) ownerServesUptoCard
end Rows
end Go.Proofs.YtdkcgcgefgeooaaGreatDoor

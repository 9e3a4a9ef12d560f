/-
  DERIVED. GIVEN WITH THE SEED: THE CARDS: each row of YtkimpfoimblhjaaDoorRows.lean that lists a variable, with what it lists TIED to the program's text (the seventh form; the later family's looks); each row that meets fmt, with fmt's text TOLD by the authors' own Lean function (tested against real Go, not proved from fmt's source: count such statements apart). THE CARD IS WHAT COUNTS. Prove the row's statement (the work); the ties are given (YtkimpfoimblhjaaDoorTie.lean); close each card by the builder's one call (the guide's Derived/Test/ToyasCard.lean, 'card_holds'). Laid BY PROGRAM, IN A SANDBOX (cutbox-door.mjs). By AI agents, Wed Nov 11 2026. No macro, syntax, notation, axiom, sorry.
-/
import Derived.Test.YtkimpfoimblhjaaDoorRows
import GoSem.ClaimSeven
namespace Go.Proofs.YtkimpfoimblhjaaDoor
namespace Rows

/-- THE TIED CARD OF 'switchboardlaw02.AddrDigits'. -/
def addrDigitsCard : Claim7 := { stood := { row := addrDigitsRow, standIns := [], harness := (true, "65e6ffbbd61a5df9543aec166dec04a4a8e595f380eea6a20228ea6fa3712c15"), looks := true }, kinds := [], alts := [], laidByText := true, laidKinds := [.data, .data, .data, .data, .pinned], laidTests := true, laidLooks := .later }
def AddrDigitsCardSaid : Prop := Claim7.holds Tryd.pinned (.plain (OpenSpec.ofChange addrDigitsSpec)) addrDigitsCard

/-- THE TIED CARD OF 'switchboardlaw02.AddrFamilies'. -/
def addrFamiliesCard : Claim7 := { stood := { row := addrFamiliesRow, standIns := [], harness := (true, "65e6ffbbd61a5df9543aec166dec04a4a8e595f380eea6a20228ea6fa3712c15"), looks := true }, kinds := [], alts := [], laidByText := true, laidKinds := [.data, .data, .data, .data, .pinned], laidTests := true, laidLooks := .later }
def AddrFamiliesCardSaid : Prop := Claim7.holds Tryd.pinned (.plain (OpenSpec.ofChange addrFamiliesSpec)) addrFamiliesCard

/-- THE TIED CARD OF 'switchboardlaw02.AddrRows'. -/
def addrRowsCard : Claim7 := { stood := { row := addrRowsRow, standIns := [], harness := (true, "65e6ffbbd61a5df9543aec166dec04a4a8e595f380eea6a20228ea6fa3712c15"), looks := true }, kinds := [], alts := [], laidByText := true, laidKinds := [.data, .data, .data, .data, .pinned], laidTests := true, laidLooks := .later }
def AddrRowsCardSaid : Prop := Claim7.holds Tryd.pinned (.plain (OpenSpec.ofChange addrRowsSpec)) addrRowsCard

/-- THE TIED CARD OF 'switchboardlaw02.AddrBack'. -/
def addrBackCard : Claim7 := { stood := { row := addrBackRow, standIns := [], harness := (true, "65e6ffbbd61a5df9543aec166dec04a4a8e595f380eea6a20228ea6fa3712c15"), looks := true }, kinds := [], alts := [], laidByText := true, laidKinds := [.data, .data, .data, .data, .pinned], laidTests := true, laidLooks := .later }
def AddrBackCardSaid : Prop := Claim7.holds Tryd.pinned (.plain (OpenSpec.ofChange addrBackSpec)) addrBackCard

/-- THE TIED CARD OF 'switchboardlaw01.LabelParts'. -/
def labelPartsCard : Claim7 := { stood := { row := labelPartsRow, standIns := [], harness := (true, "65e6ffbbd61a5df9543aec166dec04a4a8e595f380eea6a20228ea6fa3712c15"), looks := true }, kinds := [], alts := [], laidByText := true, laidKinds := [.data, .data, .data, .data, .sentinel, .sentinel, .pinned], laidTests := true, laidLooks := .later }
def LabelPartsCardSaid : Prop := Claim7.holds Tryd.pinned (.plain (OpenSpec.ofChange labelPartsSpec)) labelPartsCard

/-- THE TIED CARD OF 'switchboardlaw01.LabelKeys'. -/
def labelKeysCard : Claim7 := { stood := { row := labelKeysRow, standIns := [], harness := (true, "65e6ffbbd61a5df9543aec166dec04a4a8e595f380eea6a20228ea6fa3712c15"), looks := true }, kinds := [], alts := [], laidByText := true, laidKinds := [.data, .data, .data, .data, .sentinel, .sentinel, .pinned], laidTests := true, laidLooks := .later }
def LabelKeysCardSaid : Prop := Claim7.holds Tryd.pinned (.plain (OpenSpec.ofChange labelKeysSpec)) labelKeysCard

/-- THE TIED CARD OF 'switchboardlaw01.LabelBack'. -/
def labelBackCard : Claim7 := { stood := { row := labelBackRow, standIns := [], harness := (true, "65e6ffbbd61a5df9543aec166dec04a4a8e595f380eea6a20228ea6fa3712c15"), looks := true }, kinds := [], alts := [], laidByText := true, laidKinds := [.data, .data, .data, .data, .sentinel, .sentinel, .pinned], laidTests := true, laidLooks := .later }
def LabelBackCardSaid : Prop := Claim7.holds Tryd.pinned (.plain (OpenSpec.ofChange labelBackSpec)) labelBackCard

/-- THE TIED CARD OF 'switchboardlaw01.LabelColon'. -/
def labelColonCard : Claim7 := { stood := { row := labelColonRow, standIns := [], harness := (true, "65e6ffbbd61a5df9543aec166dec04a4a8e595f380eea6a20228ea6fa3712c15"), looks := true }, kinds := [], alts := [], laidByText := true, laidKinds := [.data, .data, .data, .data, .sentinel, .sentinel, .pinned], laidTests := true, laidLooks := .later }
def LabelColonCardSaid : Prop := Claim7.holds Tryd.pinned (.plain (OpenSpec.ofChange labelColonSpec)) labelColonCard

/-- THE TIED CARD OF 'switchboardlaw01.LabelRunes'. -/
def labelRunesCard : Claim7 := { stood := { row := labelRunesRow, standIns := [], harness := (true, "65e6ffbbd61a5df9543aec166dec04a4a8e595f380eea6a20228ea6fa3712c15"), looks := true }, kinds := [], alts := [], laidByText := true, laidKinds := [.data, .data, .data, .data, .sentinel, .sentinel, .pinned], laidTests := true, laidLooks := .later }
def LabelRunesCardSaid : Prop := Claim7.holds Tryd.pinned (.plain (OpenSpec.ofChange labelRunesSpec)) labelRunesCard

/-- THE TIED CARD OF 'switchboardlaw01.LabelTells'. -/
def labelTellsCard : Claim7 := { stood := { row := labelTellsRow, standIns := [], harness := (true, "65e6ffbbd61a5df9543aec166dec04a4a8e595f380eea6a20228ea6fa3712c15"), looks := true }, kinds := [], alts := [], laidByText := true, laidKinds := [.data, .data, .data, .data, .sentinel, .sentinel, .pinned], laidTests := true, laidLooks := .later }
def LabelTellsCardSaid : Prop := Claim7.holds Tryd.pinned (.plain (OpenSpec.ofChange labelTellsSpec)) labelTellsCard

/-- THE TIED CARD OF 'switchboardlaw02.AddrOrder'. -/
def addrOrderCard : Claim7 := { stood := { row := addrOrderRow, standIns := [], harness := (true, "65e6ffbbd61a5df9543aec166dec04a4a8e595f380eea6a20228ea6fa3712c15"), looks := true }, kinds := [], alts := [], laidByText := true, laidKinds := [.data, .data, .data, .data, .pinned], laidTests := true, laidLooks := .later }
def AddrOrderCardSaid : Prop := Claim7.holds Tryd.pinned (.plain (OpenSpec.ofChange addrOrderSpec)) addrOrderCard

/-- THE TIED CARD OF 'switchboardlaw02.AddrTells'. -/
def addrTellsCard : Claim7 := { stood := { row := addrTellsRow, standIns := [], harness := (true, "65e6ffbbd61a5df9543aec166dec04a4a8e595f380eea6a20228ea6fa3712c15"), looks := true }, kinds := [], alts := [], laidByText := true, laidKinds := [.data, .data, .data, .data, .pinned], laidTests := true, laidLooks := .later }
def AddrTellsCardSaid : Prop := Claim7.holds Tryd.pinned (.plain (OpenSpec.ofChange addrTellsSpec)) addrTellsCard

/-- THE SECOND FORM's CARD OF 'switchboardlaw02.AddrDigits'. -/
def addrDigitsUptoCard : Claim7 := { stood := { row := addrDigitsUptoRow, standIns := [], harness := (true, "65e6ffbbd61a5df9543aec166dec04a4a8e595f380eea6a20228ea6fa3712c15"), looks := true }, kinds := [], alts := [], laidByText := true, laidKinds := [.data, .data, .data, .data, .pinned], laidTests := true, laidLooks := .later }
def AddrDigitsUptoCardSaid : Prop := Claim7.holds Tryd.pinned (.plain (OpenSpec.upto addrDigitsSpec)) addrDigitsUptoCard

/-- THE SECOND FORM's CARD OF 'switchboardlaw02.AddrFamilies'. -/
def addrFamiliesUptoCard : Claim7 := { stood := { row := addrFamiliesUptoRow, standIns := [], harness := (true, "65e6ffbbd61a5df9543aec166dec04a4a8e595f380eea6a20228ea6fa3712c15"), looks := true }, kinds := [], alts := [], laidByText := true, laidKinds := [.data, .data, .data, .data, .pinned], laidTests := true, laidLooks := .later }
def AddrFamiliesUptoCardSaid : Prop := Claim7.holds Tryd.pinned (.plain (OpenSpec.upto addrFamiliesSpec)) addrFamiliesUptoCard

/-- THE SECOND FORM's CARD OF 'switchboardlaw02.AddrRows'. -/
def addrRowsUptoCard : Claim7 := { stood := { row := addrRowsUptoRow, standIns := [], harness := (true, "65e6ffbbd61a5df9543aec166dec04a4a8e595f380eea6a20228ea6fa3712c15"), looks := true }, kinds := [], alts := [], laidByText := true, laidKinds := [.data, .data, .data, .data, .pinned], laidTests := true, laidLooks := .later }
def AddrRowsUptoCardSaid : Prop := Claim7.holds Tryd.pinned (.plain (OpenSpec.upto addrRowsSpec)) addrRowsUptoCard

/-- THE SECOND FORM's CARD OF 'switchboardlaw02.AddrBack'. -/
def addrBackUptoCard : Claim7 := { stood := { row := addrBackUptoRow, standIns := [], harness := (true, "65e6ffbbd61a5df9543aec166dec04a4a8e595f380eea6a20228ea6fa3712c15"), looks := true }, kinds := [], alts := [], laidByText := true, laidKinds := [.data, .data, .data, .data, .pinned], laidTests := true, laidLooks := .later }
def AddrBackUptoCardSaid : Prop := Claim7.holds Tryd.pinned (.plain (OpenSpec.upto addrBackSpec)) addrBackUptoCard

/-- THE SECOND FORM's CARD OF 'switchboardlaw01.LabelParts'. -/
def labelPartsUptoCard : Claim7 := { stood := { row := labelPartsUptoRow, standIns := [], harness := (true, "65e6ffbbd61a5df9543aec166dec04a4a8e595f380eea6a20228ea6fa3712c15"), looks := true }, kinds := [], alts := [], laidByText := true, laidKinds := [.data, .data, .data, .data, .sentinel, .sentinel, .pinned], laidTests := true, laidLooks := .later }
def LabelPartsUptoCardSaid : Prop := Claim7.holds Tryd.pinned (.plain (OpenSpec.upto labelPartsSpec)) labelPartsUptoCard

/-- THE SECOND FORM's CARD OF 'switchboardlaw01.LabelKeys'. -/
def labelKeysUptoCard : Claim7 := { stood := { row := labelKeysUptoRow, standIns := [], harness := (true, "65e6ffbbd61a5df9543aec166dec04a4a8e595f380eea6a20228ea6fa3712c15"), looks := true }, kinds := [], alts := [], laidByText := true, laidKinds := [.data, .data, .data, .data, .sentinel, .sentinel, .pinned], laidTests := true, laidLooks := .later }
def LabelKeysUptoCardSaid : Prop := Claim7.holds Tryd.pinned (.plain (OpenSpec.upto labelKeysSpec)) labelKeysUptoCard

/-- THE SECOND FORM's CARD OF 'switchboardlaw01.LabelBack'. -/
def labelBackUptoCard : Claim7 := { stood := { row := labelBackUptoRow, standIns := [], harness := (true, "65e6ffbbd61a5df9543aec166dec04a4a8e595f380eea6a20228ea6fa3712c15"), looks := true }, kinds := [], alts := [], laidByText := true, laidKinds := [.data, .data, .data, .data, .sentinel, .sentinel, .pinned], laidTests := true, laidLooks := .later }
def LabelBackUptoCardSaid : Prop := Claim7.holds Tryd.pinned (.plain (OpenSpec.upto labelBackSpec)) labelBackUptoCard

/-- THE SECOND FORM's CARD OF 'switchboardlaw01.LabelColon'. -/
def labelColonUptoCard : Claim7 := { stood := { row := labelColonUptoRow, standIns := [], harness := (true, "65e6ffbbd61a5df9543aec166dec04a4a8e595f380eea6a20228ea6fa3712c15"), looks := true }, kinds := [], alts := [], laidByText := true, laidKinds := [.data, .data, .data, .data, .sentinel, .sentinel, .pinned], laidTests := true, laidLooks := .later }
def LabelColonUptoCardSaid : Prop := Claim7.holds Tryd.pinned (.plain (OpenSpec.upto labelColonSpec)) labelColonUptoCard

/-- THE SECOND FORM's CARD OF 'switchboardlaw01.LabelRunes'. -/
def labelRunesUptoCard : Claim7 := { stood := { row := labelRunesUptoRow, standIns := [], harness := (true, "65e6ffbbd61a5df9543aec166dec04a4a8e595f380eea6a20228ea6fa3712c15"), looks := true }, kinds := [], alts := [], laidByText := true, laidKinds := [.data, .data, .data, .data, .sentinel, .sentinel, .pinned], laidTests := true, laidLooks := .later }
def LabelRunesUptoCardSaid : Prop := Claim7.holds Tryd.pinned (.plain (OpenSpec.upto labelRunesSpec)) labelRunesUptoCard

/-- THE SECOND FORM's CARD OF 'switchboardlaw01.LabelTells'. -/
def labelTellsUptoCard : Claim7 := { stood := { row := labelTellsUptoRow, standIns := [], harness := (true, "65e6ffbbd61a5df9543aec166dec04a4a8e595f380eea6a20228ea6fa3712c15"), looks := true }, kinds := [], alts := [], laidByText := true, laidKinds := [.data, .data, .data, .data, .sentinel, .sentinel, .pinned], laidTests := true, laidLooks := .later }
def LabelTellsUptoCardSaid : Prop := Claim7.holds Tryd.pinned (.plain (OpenSpec.upto labelTellsSpec)) labelTellsUptoCard

/-- THE SECOND FORM's CARD OF 'switchboardlaw02.AddrOrder'. -/
def addrOrderUptoCard : Claim7 := { stood := { row := addrOrderUptoRow, standIns := [], harness := (true, "65e6ffbbd61a5df9543aec166dec04a4a8e595f380eea6a20228ea6fa3712c15"), looks := true }, kinds := [], alts := [], laidByText := true, laidKinds := [.data, .data, .data, .data, .pinned], laidTests := true, laidLooks := .later }
def AddrOrderUptoCardSaid : Prop := Claim7.holds Tryd.pinned (.plain (OpenSpec.upto addrOrderSpec)) addrOrderUptoCard

/-- THE SECOND FORM's CARD OF 'switchboardlaw02.AddrTells'. -/
def addrTellsUptoCard : Claim7 := { stood := { row := addrTellsUptoRow, standIns := [], harness := (true, "65e6ffbbd61a5df9543aec166dec04a4a8e595f380eea6a20228ea6fa3712c15"), looks := true }, kinds := [], alts := [], laidByText := true, laidKinds := [.data, .data, .data, .data, .pinned], laidTests := true, laidLooks := .later }
def AddrTellsUptoCardSaid : Prop := Claim7.holds Tryd.pinned (.plain (OpenSpec.upto addrTellsSpec)) addrTellsUptoCard
end Rows
end Go.Proofs.YtkimpfoimblhjaaDoor

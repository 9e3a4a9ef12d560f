/-
  No cell of these rows narrows 'for every input' (looked for: loops, veiled, ifaces, maps, wideKeys, modest, calm, conditions, laid).
  DERIVED. THE GIVEN ROWS OF THIS SEAT. 3 by the template 'for every input the law returns true; each argument reads behind the call as it read before'; 0 by the template 'total and deterministic' (their statements: YtdkcgcgefgeooaaTotals.lean).
  GIVEN WITH THE SEED: the statements are not yours to turn. If you find one false, say at which input.
  Laid BY PROGRAM, IN A SANDBOX (cutbox-rows.mjs): the forced cells as the released guide's own fill.sh prints them over the translation d874c1cd2cf691d7… (all of the seat's roots in one cut). By AI agents, Wed Nov 11 2026. No macro, syntax, notation, axiom, sorry.
-/
import Derived.Test.YtdkcgcgefgeooaaChecked
import GoSem.Claim
import GoSem.ClaimJoined
import GoSem.ClaimMapViews
import Derived.JoinedTies
import Derived.KernelRfl
namespace Go.Proofs.Ytdkcgcgefgeooaa
/- THE CELL 'sum', in the pinned program and in every row, IS THE sha256 OF THE DUMP (.gsa) THAT YtdkcgcgefgeooaaProg.lean LOADS. Nothing in Lean hashes anything: it is a label: what it is worth is what the hold of that sum in a sandbox is worth. -/
noncomputable def Try.pinned : Pinned := { name := "ytdkcgcgefgeooaa", sum := "d874c1cd2cf691d705069ab05e1b4a2ad99fe70de54b137fe1e874d159bff959", checked := Try.checked }
namespace Rows
def none {H : Type} : Left H := { results := [], args := [] }

/-- 'switchboardlaw24.BookQuits': WHATEVER THE INPUT: true; the input reads as it did. -/
def bookQuitsSpec : ChangeSpec := { name := "bookQuits", fn := fun _ => fun
  | [d1, d2] => { results := [.lit (.bool true)], args := [d1, d2] }
  | _ => none }
def bookQuitsRow : OpenClaim := { program := "ytdkcgcgefgeooaa", sum := "d874c1cd2cf691d705069ab05e1b4a2ad99fe70de54b137fe1e874d159bff959", func := "switchboard/switchboardlaw24.BookQuits", spec := "bookQuits", unfollowed := true, recurses := true, apart := false }
def BookQuitsSaid : Prop := bookQuitsRow.holds Try.pinned (OpenSpec.ofChange bookQuitsSpec)

/-- ITS FALSE NEIGHBOUR: 'it returns false'. Refute it at one input. -/
def bookQuitsWrong : ChangeSpec := { name := "bookQuits", fn := fun _ => fun
  | [d1, d2] => { results := [.lit (.bool false)], args := [d1, d2] }
  | _ => none }
def BookQuitsWrongFalsely : Prop := bookQuitsRow.holds Try.pinned (OpenSpec.ofChange bookQuitsWrong)

/-- 'switchboardlaw24.BookClosed': WHATEVER THE INPUT: true; the input reads as it did. -/
def bookClosedSpec : ChangeSpec := { name := "bookClosed", fn := fun _ => fun
  | [d1, d2, d3, d4] => { results := [.lit (.bool true)], args := [d1, d2, d3, d4] }
  | _ => none }
def bookClosedRow : OpenClaim := { program := "ytdkcgcgefgeooaa", sum := "d874c1cd2cf691d705069ab05e1b4a2ad99fe70de54b137fe1e874d159bff959", func := "switchboard/switchboardlaw24.BookClosed", spec := "bookClosed", unfollowed := true, recurses := true, apart := false }
def BookClosedSaid : Prop := bookClosedRow.holds Try.pinned (OpenSpec.ofChange bookClosedSpec)

/-- ITS FALSE NEIGHBOUR: 'it returns false'. Refute it at one input. -/
def bookClosedWrong : ChangeSpec := { name := "bookClosed", fn := fun _ => fun
  | [d1, d2, d3, d4] => { results := [.lit (.bool false)], args := [d1, d2, d3, d4] }
  | _ => none }
def BookClosedWrongFalsely : Prop := bookClosedRow.holds Try.pinned (OpenSpec.ofChange bookClosedWrong)

/-- 'switchboardlaw24.BookPlays': WHATEVER THE INPUT: true; the input reads as it did. -/
def bookPlaysSpec : ChangeSpec := { name := "bookPlays", fn := fun _ => fun
  | [d1, d2, d3, d4] => { results := [.lit (.bool true)], args := [d1, d2, d3, d4] }
  | _ => none }
def bookPlaysRow : OpenClaim := { program := "ytdkcgcgefgeooaa", sum := "d874c1cd2cf691d705069ab05e1b4a2ad99fe70de54b137fe1e874d159bff959", func := "switchboard/switchboardlaw24.BookPlays", spec := "bookPlays", unfollowed := true, recurses := true, apart := false }
def BookPlaysSaid : Prop := bookPlaysRow.holds Try.pinned (OpenSpec.ofChange bookPlaysSpec)

/-- ITS FALSE NEIGHBOUR: 'it returns false'. Refute it at one input. -/
def bookPlaysWrong : ChangeSpec := { name := "bookPlays", fn := fun _ => fun
  | [d1, d2, d3, d4] => { results := [.lit (.bool false)], args := [d1, d2, d3, d4] }
  | _ => none }
def BookPlaysWrongFalsely : Prop := bookPlaysRow.holds Try.pinned (OpenSpec.ofChange bookPlaysWrong)

/- THE SECOND FORM. 'bulk': how many values and letters a reading holds, each counted each time it is reached (what is shared counts as often as it is met; a slice's spare places count too). A statement '..UptoSaid' is the law's where the arguments, and the package variables that the reading takes, are together of bulk at most 1048576: NARROWER than '..Said'. Prove '..Said' where nothing that the law and all that it calls make is longer than what came in: it says more and counts as full. Else prove '..UptoSaid'. A law counts once. -/
mutual
def uptoBulk {H : Type} : DataW H → Nat
  | .lit (.string bytes) => bytes.length + 1
  | .lit _ => 1
  | .nil => 1
  | .ptr d => uptoBulk d + 1
  | .slice elems spare => uptoBulkAll elems + uptoBulkAll spare + 1
  | .agg parts => uptoBulkAll parts + 1
  | .iface _ d => uptoBulk d + 1
  | .map entries => uptoBulkEntries entries + 1
  | .held _ => 1
def uptoBulkAll {H : Type} : List (DataW H) → Nat
  | [] => 0
  | d :: r => uptoBulk d + uptoBulkAll r
def uptoBulkEntries {H : Type} : List (Lit × DataW H) → Nat
  | [] => 0
  | x :: r => uptoBulkEntry x + uptoBulkEntries r
def uptoBulkEntry {H : Type} : Lit × DataW H → Nat
  | (.string bytes, d) => bytes.length + uptoBulk d + 1
  | (_, d) => uptoBulk d + 1
 end
def uptoSmall : (H : Type) → List (DataW H) → Bool := fun _ ds => decide (uptoBulkAll ds ≤ 1048576)
def OpenSpec.upto (s : _root_.Go.ChangeSpec) : _root_.Go.OpenSpec := { _root_.Go.OpenSpec.ofChange s with cond := some uptoSmall }

/-- 'switchboardlaw24.BookQuits', WHERE WHAT IT READS IS OF BULK AT MOST 1048576: true; the input reads as it did. -/
def bookQuitsUptoRow : OpenClaim := { program := "ytdkcgcgefgeooaa", sum := "d874c1cd2cf691d705069ab05e1b4a2ad99fe70de54b137fe1e874d159bff959", func := "switchboard/switchboardlaw24.BookQuits", spec := "bookQuits", unfollowed := true, recurses := true, apart := false, narrowed := true }
def BookQuitsUptoSaid : Prop := bookQuitsUptoRow.holds Try.pinned (OpenSpec.upto bookQuitsSpec)

/-- 'switchboardlaw24.BookClosed', WHERE WHAT IT READS IS OF BULK AT MOST 1048576: true; the input reads as it did. -/
def bookClosedUptoRow : OpenClaim := { program := "ytdkcgcgefgeooaa", sum := "d874c1cd2cf691d705069ab05e1b4a2ad99fe70de54b137fe1e874d159bff959", func := "switchboard/switchboardlaw24.BookClosed", spec := "bookClosed", unfollowed := true, recurses := true, apart := false, narrowed := true }
def BookClosedUptoSaid : Prop := bookClosedUptoRow.holds Try.pinned (OpenSpec.upto bookClosedSpec)

/-- 'switchboardlaw24.BookPlays', WHERE WHAT IT READS IS OF BULK AT MOST 1048576: true; the input reads as it did. -/
def bookPlaysUptoRow : OpenClaim := { program := "ytdkcgcgefgeooaa", sum := "d874c1cd2cf691d705069ab05e1b4a2ad99fe70de54b137fe1e874d159bff959", func := "switchboard/switchboardlaw24.BookPlays", spec := "bookPlays", unfollowed := true, recurses := true, apart := false, narrowed := true }
def BookPlaysUptoSaid : Prop := bookPlaysUptoRow.holds Try.pinned (OpenSpec.upto bookPlaysSpec)

end Rows
end Go.Proofs.Ytdkcgcgefgeooaa

/-
  No cell of these rows narrows 'for every input' (looked for: loops, veiled, ifaces, maps, wideKeys, modest, calm, conditions, laid).
  DERIVED. THE GIVEN ROWS OF THIS SEAT. 10 by the template 'for every input the law returns true; each argument reads behind the call as it read before'; 0 by the template 'total and deterministic' (their statements: YtfkfjbppncbkjaaTotals.lean).
  GIVEN WITH THE SEED: the statements are not yours to turn. If you find one false, say at which input.
  Laid BY PROGRAM, IN A SANDBOX (cutbox-rows.mjs): the forced cells as the released guide's own fill.sh prints them over the translation 93369da57ecfa407… (all of the seat's roots in one cut). By AI agents, Wed Nov 11 2026. No macro, syntax, notation, axiom, sorry.
-/
import Derived.Test.YtfkfjbppncbkjaaChecked
import GoSem.Claim
import GoSem.ClaimJoined
import GoSem.ClaimMapViews
import Derived.JoinedTies
import Derived.KernelRfl
namespace Go.Proofs.Ytfkfjbppncbkjaa
/- THE CELL 'sum', in the pinned program and in every row, IS THE sha256 OF THE DUMP (.gsa) THAT YtfkfjbppncbkjaaProg.lean LOADS. Nothing in Lean hashes anything: it is a label: what it is worth is what the hold of that sum in a sandbox is worth. -/
noncomputable def Try.pinned : Pinned := { name := "ytfkfjbppncbkjaa", sum := "93369da57ecfa407c21264df1f25429d57618acdb38747359a48a86e44035f6b", checked := Try.checked }
namespace Rows
def none {H : Type} : Left H := { results := [], args := [] }

/-- 'switchboardlaw20.FlightTells': WHATEVER THE INPUT: true; the input reads as it did. -/
def flightTellsSpec : ChangeSpec := { name := "flightTells", fn := fun _ => fun
  | [d1, d2, d3] => { results := [.lit (.bool true)], args := [d1, d2, d3] }
  | _ => none }
def flightTellsRow : OpenClaim := { program := "ytfkfjbppncbkjaa", sum := "93369da57ecfa407c21264df1f25429d57618acdb38747359a48a86e44035f6b", func := "switchboard/switchboardlaw20.FlightTells", spec := "flightTells", apart := false }
def FlightTellsSaid : Prop := flightTellsRow.holds Try.pinned (OpenSpec.ofChange flightTellsSpec)

/-- ITS FALSE NEIGHBOUR: 'it returns false'. Refute it at one input. -/
def flightTellsWrong : ChangeSpec := { name := "flightTells", fn := fun _ => fun
  | [d1, d2, d3] => { results := [.lit (.bool false)], args := [d1, d2, d3] }
  | _ => none }
def FlightTellsWrongFalsely : Prop := flightTellsRow.holds Try.pinned (OpenSpec.ofChange flightTellsWrong)

/-- 'switchboardlaw20.FlightOnce': WHATEVER THE INPUT: true; the input reads as it did. -/
def flightOnceSpec : ChangeSpec := { name := "flightOnce", fn := fun _ => fun
  | [d] => { results := [.lit (.bool true)], args := [d] }
  | _ => none }
def flightOnceRow : OpenClaim := { program := "ytfkfjbppncbkjaa", sum := "93369da57ecfa407c21264df1f25429d57618acdb38747359a48a86e44035f6b", func := "switchboard/switchboardlaw20.FlightOnce", spec := "flightOnce", apart := false }
def FlightOnceSaid : Prop := flightOnceRow.holds Try.pinned (OpenSpec.ofChange flightOnceSpec)

/-- ITS FALSE NEIGHBOUR: 'it returns false'. Refute it at one input. -/
def flightOnceWrong : ChangeSpec := { name := "flightOnce", fn := fun _ => fun
  | [d] => { results := [.lit (.bool false)], args := [d] }
  | _ => none }
def FlightOnceWrongFalsely : Prop := flightOnceRow.holds Try.pinned (OpenSpec.ofChange flightOnceWrong)

/-- 'switchboardlaw20.FlightMany': WHATEVER THE INPUT: true; the input reads as it did. -/
def flightManySpec : ChangeSpec := { name := "flightMany", fn := fun _ => fun
  | [d1, d2] => { results := [.lit (.bool true)], args := [d1, d2] }
  | _ => none }
def flightManyRow : OpenClaim := { program := "ytfkfjbppncbkjaa", sum := "93369da57ecfa407c21264df1f25429d57618acdb38747359a48a86e44035f6b", func := "switchboard/switchboardlaw20.FlightMany", spec := "flightMany", apart := false }
def FlightManySaid : Prop := flightManyRow.holds Try.pinned (OpenSpec.ofChange flightManySpec)

/-- ITS FALSE NEIGHBOUR: 'it returns false'. Refute it at one input. -/
def flightManyWrong : ChangeSpec := { name := "flightMany", fn := fun _ => fun
  | [d1, d2] => { results := [.lit (.bool false)], args := [d1, d2] }
  | _ => none }
def FlightManyWrongFalsely : Prop := flightManyRow.holds Try.pinned (OpenSpec.ofChange flightManyWrong)

/-- 'switchboardlaw20.FlightCheck': WHATEVER THE INPUT: true; the input reads as it did. -/
def flightCheckSpec : ChangeSpec := { name := "flightCheck", fn := fun _ => fun
  | [d1, d2, d3] => { results := [.lit (.bool true)], args := [d1, d2, d3] }
  | _ => none }
def flightCheckRow : OpenClaim := { program := "ytfkfjbppncbkjaa", sum := "93369da57ecfa407c21264df1f25429d57618acdb38747359a48a86e44035f6b", func := "switchboard/switchboardlaw20.FlightCheck", spec := "flightCheck", apart := false }
def FlightCheckSaid : Prop := flightCheckRow.holds Try.pinned (OpenSpec.ofChange flightCheckSpec)

/-- ITS FALSE NEIGHBOUR: 'it returns false'. Refute it at one input. -/
def flightCheckWrong : ChangeSpec := { name := "flightCheck", fn := fun _ => fun
  | [d1, d2, d3] => { results := [.lit (.bool false)], args := [d1, d2, d3] }
  | _ => none }
def FlightCheckWrongFalsely : Prop := flightCheckRow.holds Try.pinned (OpenSpec.ofChange flightCheckWrong)

/-- 'switchboardlaw20.FlightBack': WHATEVER THE INPUT: true; the input reads as it did. -/
def flightBackSpec : ChangeSpec := { name := "flightBack", fn := fun _ => fun
  | [d1, d2] => { results := [.lit (.bool true)], args := [d1, d2] }
  | _ => none }
def flightBackRow : OpenClaim := { program := "ytfkfjbppncbkjaa", sum := "93369da57ecfa407c21264df1f25429d57618acdb38747359a48a86e44035f6b", func := "switchboard/switchboardlaw20.FlightBack", spec := "flightBack", apart := false }
def FlightBackSaid : Prop := flightBackRow.holds Try.pinned (OpenSpec.ofChange flightBackSpec)

/-- ITS FALSE NEIGHBOUR: 'it returns false'. Refute it at one input. -/
def flightBackWrong : ChangeSpec := { name := "flightBack", fn := fun _ => fun
  | [d1, d2] => { results := [.lit (.bool false)], args := [d1, d2] }
  | _ => none }
def FlightBackWrongFalsely : Prop := flightBackRow.holds Try.pinned (OpenSpec.ofChange flightBackWrong)

/-- 'switchboardlaw08.SockCheck': WHATEVER THE INPUT: true; the input reads as it did. -/
def sockCheckSpec : ChangeSpec := { name := "sockCheck", fn := fun _ => fun
  | [d1, d2, d3] => { results := [.lit (.bool true)], args := [d1, d2, d3] }
  | _ => none }
def sockCheckRow : OpenClaim := { program := "ytfkfjbppncbkjaa", sum := "93369da57ecfa407c21264df1f25429d57618acdb38747359a48a86e44035f6b", func := "switchboard/switchboardlaw08.SockCheck", spec := "sockCheck", unfollowed := true, recurses := true, apart := false }
def SockCheckSaid : Prop := sockCheckRow.holds Try.pinned (OpenSpec.ofChange sockCheckSpec)

/-- ITS FALSE NEIGHBOUR: 'it returns false'. Refute it at one input. -/
def sockCheckWrong : ChangeSpec := { name := "sockCheck", fn := fun _ => fun
  | [d1, d2, d3] => { results := [.lit (.bool false)], args := [d1, d2, d3] }
  | _ => none }
def SockCheckWrongFalsely : Prop := sockCheckRow.holds Try.pinned (OpenSpec.ofChange sockCheckWrong)

/-- 'switchboardlaw15.HeatPaces': WHATEVER THE INPUT: true; the input reads as it did. -/
def heatPacesSpec : ChangeSpec := { name := "heatPaces", fn := fun _ => fun
  | [d1, d2, d3] => { results := [.lit (.bool true)], args := [d1, d2, d3] }
  | _ => none }
def heatPacesRow : OpenClaim := { program := "ytfkfjbppncbkjaa", sum := "93369da57ecfa407c21264df1f25429d57618acdb38747359a48a86e44035f6b", func := "switchboard/switchboardlaw15.HeatPaces", spec := "heatPaces", apart := false }
def HeatPacesSaid : Prop := heatPacesRow.holds Try.pinned (OpenSpec.ofChange heatPacesSpec)

/-- ITS FALSE NEIGHBOUR: 'it returns false'. Refute it at one input. -/
def heatPacesWrong : ChangeSpec := { name := "heatPaces", fn := fun _ => fun
  | [d1, d2, d3] => { results := [.lit (.bool false)], args := [d1, d2, d3] }
  | _ => none }
def HeatPacesWrongFalsely : Prop := heatPacesRow.holds Try.pinned (OpenSpec.ofChange heatPacesWrong)

/-- 'switchboardlaw15.HeatAll': WHATEVER THE INPUT: true; the input reads as it did. -/
def heatAllSpec : ChangeSpec := { name := "heatAll", fn := fun _ => fun
  | [d1, d2, d3] => { results := [.lit (.bool true)], args := [d1, d2, d3] }
  | _ => none }
def heatAllRow : OpenClaim := { program := "ytfkfjbppncbkjaa", sum := "93369da57ecfa407c21264df1f25429d57618acdb38747359a48a86e44035f6b", func := "switchboard/switchboardlaw15.HeatAll", spec := "heatAll", apart := false }
def HeatAllSaid : Prop := heatAllRow.holds Try.pinned (OpenSpec.ofChange heatAllSpec)

/-- ITS FALSE NEIGHBOUR: 'it returns false'. Refute it at one input. -/
def heatAllWrong : ChangeSpec := { name := "heatAll", fn := fun _ => fun
  | [d1, d2, d3] => { results := [.lit (.bool false)], args := [d1, d2, d3] }
  | _ => none }
def HeatAllWrongFalsely : Prop := heatAllRow.holds Try.pinned (OpenSpec.ofChange heatAllWrong)

/-- 'switchboardlaw08.SockPlays': WHATEVER THE INPUT: true; the input reads as it did. -/
def sockPlaysSpec : ChangeSpec := { name := "sockPlays", fn := fun _ => fun
  | [d] => { results := [.lit (.bool true)], args := [d] }
  | _ => none }
def sockPlaysRow : OpenClaim := { program := "ytfkfjbppncbkjaa", sum := "93369da57ecfa407c21264df1f25429d57618acdb38747359a48a86e44035f6b", func := "switchboard/switchboardlaw08.SockPlays", spec := "sockPlays", unfollowed := true, recurses := true, apart := false }
def SockPlaysSaid : Prop := sockPlaysRow.holds Try.pinned (OpenSpec.ofChange sockPlaysSpec)

/-- ITS FALSE NEIGHBOUR: 'it returns false'. Refute it at one input. -/
def sockPlaysWrong : ChangeSpec := { name := "sockPlays", fn := fun _ => fun
  | [d] => { results := [.lit (.bool false)], args := [d] }
  | _ => none }
def SockPlaysWrongFalsely : Prop := sockPlaysRow.holds Try.pinned (OpenSpec.ofChange sockPlaysWrong)

/-- 'switchboardlaw08.SockOwn': WHATEVER THE INPUT: true; the input reads as it did. -/
def sockOwnSpec : ChangeSpec := { name := "sockOwn", fn := fun _ => fun
  | [d1, d2, d3] => { results := [.lit (.bool true)], args := [d1, d2, d3] }
  | _ => none }
def sockOwnRow : OpenClaim := { program := "ytfkfjbppncbkjaa", sum := "93369da57ecfa407c21264df1f25429d57618acdb38747359a48a86e44035f6b", func := "switchboard/switchboardlaw08.SockOwn", spec := "sockOwn", unfollowed := true, recurses := true, apart := false }
def SockOwnSaid : Prop := sockOwnRow.holds Try.pinned (OpenSpec.ofChange sockOwnSpec)

/-- ITS FALSE NEIGHBOUR: 'it returns false'. Refute it at one input. -/
def sockOwnWrong : ChangeSpec := { name := "sockOwn", fn := fun _ => fun
  | [d1, d2, d3] => { results := [.lit (.bool false)], args := [d1, d2, d3] }
  | _ => none }
def SockOwnWrongFalsely : Prop := sockOwnRow.holds Try.pinned (OpenSpec.ofChange sockOwnWrong)

/- THE SECOND FORM. 'bulk': how many values and letters a reading holds, each counted each time it is reached (what is shared counts as often as it is met; a slice's spare places count too). A statement '..UptoSaid' is the law's where the arguments, and the package variables that the reading takes, are together of bulk at most 1048576: NARROWER than '..Said'. Prove '..Said' where nothing that the law and all that it calls make is longer than what came in: it says more and counts as full. Else prove '..UptoSaid'. A law counts once. -/
mutual
def uptoBulk {H : Type} : DataW H → Nat
  | .lit (.string bytes) => bytes.length + 1
  | .lit _ => 1
  | .nil => 1
  | .ptr d => uptoBulk d + 1
  | .slice elems spare => uptoBulkAll elems + uptoBulkAll spare + 1
  | .agg parts => uptoBulkAll parts + 1
  | .iface _ d => uptoBulk d + 1
  | .map entries => uptoBulkEntries entries + 1
  | .held _ => 1
def uptoBulkAll {H : Type} : List (DataW H) → Nat
  | [] => 0
  | d :: r => uptoBulk d + uptoBulkAll r
def uptoBulkEntries {H : Type} : List (Lit × DataW H) → Nat
  | [] => 0
  | x :: r => uptoBulkEntry x + uptoBulkEntries r
def uptoBulkEntry {H : Type} : Lit × DataW H → Nat
  | (.string bytes, d) => bytes.length + uptoBulk d + 1
  | (_, d) => uptoBulk d + 1
 end
def uptoSmall : (H : Type) → List (DataW H) → Bool := fun _ ds => decide (uptoBulkAll ds ≤ 1048576)
def OpenSpec.upto (s : _root_.Go.ChangeSpec) : _root_.Go.OpenSpec := { _root_.Go.OpenSpec.ofChange s with cond := some uptoSmall }

/-- 'switchboardlaw20.FlightTells', WHERE WHAT IT READS IS OF BULK AT MOST 1048576: true; the input reads as it did. -/
def flightTellsUptoRow : OpenClaim := { program := "ytfkfjbppncbkjaa", sum := "93369da57ecfa407c21264df1f25429d57618acdb38747359a48a86e44035f6b", func := "switchboard/switchboardlaw20.FlightTells", spec := "flightTells", apart := false, narrowed := true }
def FlightTellsUptoSaid : Prop := flightTellsUptoRow.holds Try.pinned (OpenSpec.upto flightTellsSpec)

/-- 'switchboardlaw20.FlightOnce', WHERE WHAT IT READS IS OF BULK AT MOST 1048576: true; the input reads as it did. -/
def flightOnceUptoRow : OpenClaim := { program := "ytfkfjbppncbkjaa", sum := "93369da57ecfa407c21264df1f25429d57618acdb38747359a48a86e44035f6b", func := "switchboard/switchboardlaw20.FlightOnce", spec := "flightOnce", apart := false, narrowed := true }
def FlightOnceUptoSaid : Prop := flightOnceUptoRow.holds Try.pinned (OpenSpec.upto flightOnceSpec)

/-- 'switchboardlaw20.FlightMany', WHERE WHAT IT READS IS OF BULK AT MOST 1048576: true; the input reads as it did. -/
def flightManyUptoRow : OpenClaim := { program := "ytfkfjbppncbkjaa", sum := "93369da57ecfa407c21264df1f25429d57618acdb38747359a48a86e44035f6b", func := "switchboard/switchboardlaw20.FlightMany", spec := "flightMany", apart := false, narrowed := true }
def FlightManyUptoSaid : Prop := flightManyUptoRow.holds Try.pinned (OpenSpec.upto flightManySpec)

/-- 'switchboardlaw20.FlightCheck', WHERE WHAT IT READS IS OF BULK AT MOST 1048576: true; the input reads as it did. -/
def flightCheckUptoRow : OpenClaim := { program := "ytfkfjbppncbkjaa", sum := "93369da57ecfa407c21264df1f25429d57618acdb38747359a48a86e44035f6b", func := "switchboard/switchboardlaw20.FlightCheck", spec := "flightCheck", apart := false, narrowed := true }
def FlightCheckUptoSaid : Prop := flightCheckUptoRow.holds Try.pinned (OpenSpec.upto flightCheckSpec)

/-- 'switchboardlaw20.FlightBack', WHERE WHAT IT READS IS OF BULK AT MOST 1048576: true; the input reads as it did. -/
def flightBackUptoRow : OpenClaim := { program := "ytfkfjbppncbkjaa", sum := "93369da57ecfa407c21264df1f25429d57618acdb38747359a48a86e44035f6b", func := "switchboard/switchboardlaw20.FlightBack", spec := "flightBack", apart := false, narrowed := true }
def FlightBackUptoSaid : Prop := flightBackUptoRow.holds Try.pinned (OpenSpec.upto flightBackSpec)

/-- 'switchboardlaw08.SockCheck', WHERE WHAT IT READS IS OF BULK AT MOST 1048576: true; the input reads as it did. -/
def sockCheckUptoRow : OpenClaim := { program := "ytfkfjbppncbkjaa", sum := "93369da57ecfa407c21264df1f25429d57618acdb38747359a48a86e44035f6b", func := "switchboard/switchboardlaw08.SockCheck", spec := "sockCheck", unfollowed := true, recurses := true, apart := false, narrowed := true }
def SockCheckUptoSaid : Prop := sockCheckUptoRow.holds Try.pinned (OpenSpec.upto sockCheckSpec)

/-- 'switchboardlaw15.HeatPaces', WHERE WHAT IT READS IS OF BULK AT MOST 1048576: true; the input reads as it did. -/
def heatPacesUptoRow : OpenClaim := { program := "ytfkfjbppncbkjaa", sum := "93369da57ecfa407c21264df1f25429d57618acdb38747359a48a86e44035f6b", func := "switchboard/switchboardlaw15.HeatPaces", spec := "heatPaces", apart := false, narrowed := true }
def HeatPacesUptoSaid : Prop := heatPacesUptoRow.holds Try.pinned (OpenSpec.upto heatPacesSpec)

/-- 'switchboardlaw15.HeatAll', WHERE WHAT IT READS IS OF BULK AT MOST 1048576: true; the input reads as it did. -/
def heatAllUptoRow : OpenClaim := { program := "ytfkfjbppncbkjaa", sum := "93369da57ecfa407c21264df1f25429d57618acdb38747359a48a86e44035f6b", func := "switchboard/switchboardlaw15.HeatAll", spec := "heatAll", apart := false, narrowed := true }
def HeatAllUptoSaid : Prop := heatAllUptoRow.holds Try.pinned (OpenSpec.upto heatAllSpec)

/-- 'switchboardlaw08.SockPlays', WHERE WHAT IT READS IS OF BULK AT MOST 1048576: true; the input reads as it did. -/
def sockPlaysUptoRow : OpenClaim := { program := "ytfkfjbppncbkjaa", sum := "93369da57ecfa407c21264df1f25429d57618acdb38747359a48a86e44035f6b", func := "switchboard/switchboardlaw08.SockPlays", spec := "sockPlays", unfollowed := true, recurses := true, apart := false, narrowed := true }
def SockPlaysUptoSaid : Prop := sockPlaysUptoRow.holds Try.pinned (OpenSpec.upto sockPlaysSpec)

/-- 'switchboardlaw08.SockOwn', WHERE WHAT IT READS IS OF BULK AT MOST 1048576: true; the input reads as it did. -/
def sockOwnUptoRow : OpenClaim := { program := "ytfkfjbppncbkjaa", sum := "93369da57ecfa407c21264df1f25429d57618acdb38747359a48a86e44035f6b", func := "switchboard/switchboardlaw08.SockOwn", spec := "sockOwn", unfollowed := true, recurses := true, apart := false, narrowed := true }
def SockOwnUptoSaid : Prop := sockOwnUptoRow.holds Try.pinned (OpenSpec.upto sockOwnSpec)

end Rows
end Go.Proofs.Ytfkfjbppncbkjaa

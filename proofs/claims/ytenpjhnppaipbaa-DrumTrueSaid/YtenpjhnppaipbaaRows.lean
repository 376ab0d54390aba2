/-
  No cell of these rows narrows 'for every input' (looked for: loops, veiled, ifaces, maps, wideKeys, modest, calm, conditions, laid).
  DERIVED. THE GIVEN ROWS OF THIS SEAT. 6 by the template 'for every input the law returns true; each argument reads behind the call as it read before'; 0 by the template 'total and deterministic' (their statements: YtenpjhnppaipbaaTotals.lean).
  GIVEN WITH THE SEED: the statements are not yours to turn. If you find one false, say at which input.
  Laid BY PROGRAM, IN A SANDBOX (cutbox-rows.mjs): the forced cells as the released guide's own fill.sh prints them over the translation 0b483fc9ace2e1af… (all of the seat's roots in one cut). By AI agents, Wed Nov 11 2026. No macro, syntax, notation, axiom, sorry.
-/
import Derived.Test.YtenpjhnppaipbaaChecked
import GoSem.Claim
import GoSem.ClaimJoined
import GoSem.ClaimMapViews
import Derived.JoinedTies
import Derived.KernelRfl
namespace Go.Proofs.Ytenpjhnppaipbaa
/- THE CELL 'sum', in the pinned program and in every row, IS THE sha256 OF THE DUMP (.gsa) THAT YtenpjhnppaipbaaProg.lean LOADS. Nothing in Lean hashes anything: it is a label: what it is worth is what the hold of that sum in a sandbox is worth. -/
noncomputable def Try.pinned : Pinned := { name := "ytenpjhnppaipbaa", sum := "0b483fc9ace2e1af0482af60c1dfa97bfefc409c89ed20efa173e5161123ec51", checked := Try.checked }
namespace Rows
def none {H : Type} : Left H := { results := [], args := [] }

/-- 'meterworkslaw02.DrumRuns': WHATEVER THE INPUT: true; the input reads as it did. -/
def drumRunsSpec : ChangeSpec := { name := "drumRuns", fn := fun _ => fun
  | [d1, d2, d3, d4] => { results := [.lit (.bool true)], args := [d1, d2, d3, d4] }
  | _ => none }
def drumRunsRow : OpenClaim := { program := "ytenpjhnppaipbaa", sum := "0b483fc9ace2e1af0482af60c1dfa97bfefc409c89ed20efa173e5161123ec51", func := "meterworks/meterworkslaw02.DrumRuns", spec := "drumRuns", unfollowed := true, recurses := true, apart := false }
def DrumRunsSaid : Prop := drumRunsRow.holds Try.pinned (OpenSpec.ofChange drumRunsSpec)

/-- ITS FALSE NEIGHBOUR: 'it returns false'. Refute it at one input. -/
def drumRunsWrong : ChangeSpec := { name := "drumRuns", fn := fun _ => fun
  | [d1, d2, d3, d4] => { results := [.lit (.bool false)], args := [d1, d2, d3, d4] }
  | _ => none }
def DrumRunsWrongFalsely : Prop := drumRunsRow.holds Try.pinned (OpenSpec.ofChange drumRunsWrong)

/-- 'meterworkslaw02.DrumFits': WHATEVER THE INPUT: true; the input reads as it did. -/
def drumFitsSpec : ChangeSpec := { name := "drumFits", fn := fun _ => fun
  | [d1, d2] => { results := [.lit (.bool true)], args := [d1, d2] }
  | _ => none }
def drumFitsRow : OpenClaim := { program := "ytenpjhnppaipbaa", sum := "0b483fc9ace2e1af0482af60c1dfa97bfefc409c89ed20efa173e5161123ec51", func := "meterworks/meterworkslaw02.DrumFits", spec := "drumFits", unfollowed := true, recurses := true, apart := false }
def DrumFitsSaid : Prop := drumFitsRow.holds Try.pinned (OpenSpec.ofChange drumFitsSpec)

/-- ITS FALSE NEIGHBOUR: 'it returns false'. Refute it at one input. -/
def drumFitsWrong : ChangeSpec := { name := "drumFits", fn := fun _ => fun
  | [d1, d2] => { results := [.lit (.bool false)], args := [d1, d2] }
  | _ => none }
def DrumFitsWrongFalsely : Prop := drumFitsRow.holds Try.pinned (OpenSpec.ofChange drumFitsWrong)

/-- 'meterworkslaw02.DrumTrue': WHATEVER THE INPUT: true; the input reads as it did. -/
def drumTrueSpec : ChangeSpec := { name := "drumTrue", fn := fun _ => fun
  | [d1, d2, d3, d4] => { results := [.lit (.bool true)], args := [d1, d2, d3, d4] }
  | _ => none }
def drumTrueRow : OpenClaim := { program := "ytenpjhnppaipbaa", sum := "0b483fc9ace2e1af0482af60c1dfa97bfefc409c89ed20efa173e5161123ec51", func := "meterworks/meterworkslaw02.DrumTrue", spec := "drumTrue", unfollowed := true, recurses := true, apart := false }
def DrumTrueSaid : Prop := drumTrueRow.holds Try.pinned (OpenSpec.ofChange drumTrueSpec)

/-- ITS FALSE NEIGHBOUR: 'it returns false'. Refute it at one input. -/
def drumTrueWrong : ChangeSpec := { name := "drumTrue", fn := fun _ => fun
  | [d1, d2, d3, d4] => { results := [.lit (.bool false)], args := [d1, d2, d3, d4] }
  | _ => none }
def DrumTrueWrongFalsely : Prop := drumTrueRow.holds Try.pinned (OpenSpec.ofChange drumTrueWrong)

/-- 'meterworkslaw02.DrumSpans': WHATEVER THE INPUT: true; the input reads as it did. -/
def drumSpansSpec : ChangeSpec := { name := "drumSpans", fn := fun _ => fun
  | [d1, d2, d3, d4] => { results := [.lit (.bool true)], args := [d1, d2, d3, d4] }
  | _ => none }
def drumSpansRow : OpenClaim := { program := "ytenpjhnppaipbaa", sum := "0b483fc9ace2e1af0482af60c1dfa97bfefc409c89ed20efa173e5161123ec51", func := "meterworks/meterworkslaw02.DrumSpans", spec := "drumSpans", unfollowed := true, recurses := true, apart := false }
def DrumSpansSaid : Prop := drumSpansRow.holds Try.pinned (OpenSpec.ofChange drumSpansSpec)

/-- ITS FALSE NEIGHBOUR: 'it returns false'. Refute it at one input. -/
def drumSpansWrong : ChangeSpec := { name := "drumSpans", fn := fun _ => fun
  | [d1, d2, d3, d4] => { results := [.lit (.bool false)], args := [d1, d2, d3, d4] }
  | _ => none }
def DrumSpansWrongFalsely : Prop := drumSpansRow.holds Try.pinned (OpenSpec.ofChange drumSpansWrong)

/-- 'meterworkslaw02.DrumBack': WHATEVER THE INPUT: true; the input reads as it did. -/
def drumBackSpec : ChangeSpec := { name := "drumBack", fn := fun _ => fun
  | [d1, d2, d3] => { results := [.lit (.bool true)], args := [d1, d2, d3] }
  | _ => none }
def drumBackRow : OpenClaim := { program := "ytenpjhnppaipbaa", sum := "0b483fc9ace2e1af0482af60c1dfa97bfefc409c89ed20efa173e5161123ec51", func := "meterworks/meterworkslaw02.DrumBack", spec := "drumBack", unfollowed := true, recurses := true, apart := false }
def DrumBackSaid : Prop := drumBackRow.holds Try.pinned (OpenSpec.ofChange drumBackSpec)

/-- ITS FALSE NEIGHBOUR: 'it returns false'. Refute it at one input. -/
def drumBackWrong : ChangeSpec := { name := "drumBack", fn := fun _ => fun
  | [d1, d2, d3] => { results := [.lit (.bool false)], args := [d1, d2, d3] }
  | _ => none }
def DrumBackWrongFalsely : Prop := drumBackRow.holds Try.pinned (OpenSpec.ofChange drumBackWrong)

/-- 'meterworkslaw02.DrumPulses': WHATEVER THE INPUT: true; the input reads as it did. -/
def drumPulsesSpec : ChangeSpec := { name := "drumPulses", fn := fun _ => fun
  | [d1, d2, d3] => { results := [.lit (.bool true)], args := [d1, d2, d3] }
  | _ => none }
def drumPulsesRow : OpenClaim := { program := "ytenpjhnppaipbaa", sum := "0b483fc9ace2e1af0482af60c1dfa97bfefc409c89ed20efa173e5161123ec51", func := "meterworks/meterworkslaw02.DrumPulses", spec := "drumPulses", unfollowed := true, recurses := true, apart := false }
def DrumPulsesSaid : Prop := drumPulsesRow.holds Try.pinned (OpenSpec.ofChange drumPulsesSpec)

/-- ITS FALSE NEIGHBOUR: 'it returns false'. Refute it at one input. -/
def drumPulsesWrong : ChangeSpec := { name := "drumPulses", fn := fun _ => fun
  | [d1, d2, d3] => { results := [.lit (.bool false)], args := [d1, d2, d3] }
  | _ => none }
def DrumPulsesWrongFalsely : Prop := drumPulsesRow.holds Try.pinned (OpenSpec.ofChange drumPulsesWrong)

/- THE SECOND FORM. 'bulk': how many values and letters a reading holds, each counted each time it is reached (what is shared counts as often as it is met; a slice's spare places count too). A statement '..UptoSaid' is the law's where the arguments, and the package variables that the reading takes, are together of bulk at most 1048576: NARROWER than '..Said'. Prove '..Said' where nothing that the law and all that it calls make is longer than what came in: it says more and counts as full. Else prove '..UptoSaid'. A law counts once. -/
mutual
def uptoBulk {H : Type} : DataW H → Nat
  | .lit (.string bytes) => bytes.length + 1
  | .lit _ => 1
  | .nil => 1
  | .ptr d => uptoBulk d + 1
  | .slice elems spare => uptoBulkAll elems + uptoBulkAll spare + 1
  | .agg parts => uptoBulkAll parts + 1
  | .iface _ d => uptoBulk d + 1
  | .map entries => uptoBulkEntries entries + 1
  | .held _ => 1
def uptoBulkAll {H : Type} : List (DataW H) → Nat
  | [] => 0
  | d :: r => uptoBulk d + uptoBulkAll r
def uptoBulkEntries {H : Type} : List (Lit × DataW H) → Nat
  | [] => 0
  | x :: r => uptoBulkEntry x + uptoBulkEntries r
def uptoBulkEntry {H : Type} : Lit × DataW H → Nat
  | (.string bytes, d) => bytes.length + uptoBulk d + 1
  | (_, d) => uptoBulk d + 1
 end
def uptoSmall : (H : Type) → List (DataW H) → Bool := fun _ ds => decide (uptoBulkAll ds ≤ 1048576)
def OpenSpec.upto (s : _root_.Go.ChangeSpec) : _root_.Go.OpenSpec := { _root_.Go.OpenSpec.ofChange s with cond := some uptoSmall }

/-- 'meterworkslaw02.DrumRuns', WHERE WHAT IT READS IS OF BULK AT MOST 1048576: true; the input reads as it did. -/
def drumRunsUptoRow : OpenClaim := { program := "ytenpjhnppaipbaa", sum := "0b483fc9ace2e1af0482af60c1dfa97bfefc409c89ed20efa173e5161123ec51", func := "meterworks/meterworkslaw02.DrumRuns", spec := "drumRuns", unfollowed := true, recurses := true, apart := false, narrowed := true }
def DrumRunsUptoSaid : Prop := drumRunsUptoRow.holds Try.pinned (OpenSpec.upto drumRunsSpec)

/-- 'meterworkslaw02.DrumFits', WHERE WHAT IT READS IS OF BULK AT MOST 1048576: true; the input reads as it did. -/
def drumFitsUptoRow : OpenClaim := { program := "ytenpjhnppaipbaa", sum := "0b483fc9ace2e1af0482af60c1dfa97bfefc409c89ed20efa173e5161123ec51", func := "meterworks/meterworkslaw02.DrumFits", spec := "drumFits", unfollowed := true, recurses := true, apart := false, narrowed := true }
def DrumFitsUptoSaid : Prop := drumFitsUptoRow.holds Try.pinned (OpenSpec.upto drumFitsSpec)

/-- 'meterworkslaw02.DrumTrue', WHERE WHAT IT READS IS OF BULK AT MOST 1048576: true; the input reads as it did. -/
def drumTrueUptoRow : OpenClaim := { program := "ytenpjhnppaipbaa", sum := "0b483fc9ace2e1af0482af60c1dfa97bfefc409c89ed20efa173e5161123ec51", func := "meterworks/meterworkslaw02.DrumTrue", spec := "drumTrue", unfollowed := true, recurses := true, apart := false, narrowed := true }
def DrumTrueUptoSaid : Prop := drumTrueUptoRow.holds Try.pinned (OpenSpec.upto drumTrueSpec)

/-- 'meterworkslaw02.DrumSpans', WHERE WHAT IT READS IS OF BULK AT MOST 1048576: true; the input reads as it did. -/
def drumSpansUptoRow : OpenClaim := { program := "ytenpjhnppaipbaa", sum := "0b483fc9ace2e1af0482af60c1dfa97bfefc409c89ed20efa173e5161123ec51", func := "meterworks/meterworkslaw02.DrumSpans", spec := "drumSpans", unfollowed := true, recurses := true, apart := false, narrowed := true }
def DrumSpansUptoSaid : Prop := drumSpansUptoRow.holds Try.pinned (OpenSpec.upto drumSpansSpec)

/-- 'meterworkslaw02.DrumBack', WHERE WHAT IT READS IS OF BULK AT MOST 1048576: true; the input reads as it did. -/
def drumBackUptoRow : OpenClaim := { program := "ytenpjhnppaipbaa", sum := "0b483fc9ace2e1af0482af60c1dfa97bfefc409c89ed20efa173e5161123ec51", func := "meterworks/meterworkslaw02.DrumBack", spec := "drumBack", unfollowed := true, recurses := true, apart := false, narrowed := true }
def DrumBackUptoSaid : Prop := drumBackUptoRow.holds Try.pinned (OpenSpec.upto drumBackSpec)

/-- 'meterworkslaw02.DrumPulses', WHERE WHAT IT READS IS OF BULK AT MOST 1048576: true; the input reads as it did. -/
def drumPulsesUptoRow : OpenClaim := { program := "ytenpjhnppaipbaa", sum := "0b483fc9ace2e1af0482af60c1dfa97bfefc409c89ed20efa173e5161123ec51", func := "meterworks/meterworkslaw02.DrumPulses", spec := "drumPulses", unfollowed := true, recurses := true, apart := false, narrowed := true }
def DrumPulsesUptoSaid : Prop := drumPulsesUptoRow.holds Try.pinned (OpenSpec.upto drumPulsesSpec)

end Rows
end Go.Proofs.Ytenpjhnppaipbaa

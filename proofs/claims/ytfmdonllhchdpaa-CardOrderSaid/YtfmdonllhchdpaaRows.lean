/-
  No cell of these rows narrows 'for every input' (looked for: loops, veiled, ifaces, maps, wideKeys, modest, calm, conditions, laid).
  DERIVED. THE GIVEN ROWS OF THIS SEAT. 9 by the template 'for every input the law returns true; each argument reads behind the call as it read before'; 0 by the template 'total and deterministic' (their statements: YtfmdonllhchdpaaTotals.lean).
  GIVEN WITH THE SEED: the statements are not yours to turn. If you find one false, say at which input.
  Laid BY PROGRAM, IN A SANDBOX (cutbox-rows.mjs): the forced cells as the released guide's own fill.sh prints them over the translation e9d2b0c90a0225ee… (all of the seat's roots in one cut). By AI agents, Wed Nov 11 2026. No macro, syntax, notation, axiom, sorry.
-/
import Derived.Test.YtfmdonllhchdpaaChecked
import GoSem.Claim
import GoSem.ClaimJoined
import GoSem.ClaimMapViews
import Derived.JoinedTies
import Derived.KernelRfl
namespace Go.Proofs.Ytfmdonllhchdpaa
/- THE CELL 'sum', in the pinned program and in every row, IS THE sha256 OF THE DUMP (.gsa) THAT YtfmdonllhchdpaaProg.lean LOADS. Nothing in Lean hashes anything: it is a label: what it is worth is what the hold of that sum in a sandbox is worth. -/
noncomputable def Try.pinned : Pinned := { name := "ytfmdonllhchdpaa", sum := "e9d2b0c90a0225eef05e740a112181b9ac8f3e0aaa7c268cb49ca45009e8eda7", checked := Try.checked }
namespace Rows
def none {H : Type} : Left H := { results := [], args := [] }

/-- 'meterworkslaw12.CardMisfits': WHATEVER THE INPUT: true; the input reads as it did. -/
def cardMisfitsSpec : ChangeSpec := { name := "cardMisfits", fn := fun _ => fun
  | [d1, d2, d3] => { results := [.lit (.bool true)], args := [d1, d2, d3] }
  | _ => none }
def cardMisfitsRow : OpenClaim := { program := "ytfmdonllhchdpaa", sum := "e9d2b0c90a0225eef05e740a112181b9ac8f3e0aaa7c268cb49ca45009e8eda7", func := "meterworks/meterworkslaw12.CardMisfits", spec := "cardMisfits", unfollowed := true, recurses := true, apart := false }
def CardMisfitsSaid : Prop := cardMisfitsRow.holds Try.pinned (OpenSpec.ofChange cardMisfitsSpec)

/-- ITS FALSE NEIGHBOUR: 'it returns false'. Refute it at one input. -/
def cardMisfitsWrong : ChangeSpec := { name := "cardMisfits", fn := fun _ => fun
  | [d1, d2, d3] => { results := [.lit (.bool false)], args := [d1, d2, d3] }
  | _ => none }
def CardMisfitsWrongFalsely : Prop := cardMisfitsRow.holds Try.pinned (OpenSpec.ofChange cardMisfitsWrong)

/-- 'meterworkslaw12.CardExplains': WHATEVER THE INPUT: true; the input reads as it did. -/
def cardExplainsSpec : ChangeSpec := { name := "cardExplains", fn := fun _ => fun
  | [d] => { results := [.lit (.bool true)], args := [d] }
  | _ => none }
def cardExplainsRow : OpenClaim := { program := "ytfmdonllhchdpaa", sum := "e9d2b0c90a0225eef05e740a112181b9ac8f3e0aaa7c268cb49ca45009e8eda7", func := "meterworks/meterworkslaw12.CardExplains", spec := "cardExplains", unfollowed := true, recurses := true, apart := false }
def CardExplainsSaid : Prop := cardExplainsRow.holds Try.pinned (OpenSpec.ofChange cardExplainsSpec)

/-- ITS FALSE NEIGHBOUR: 'it returns false'. Refute it at one input. -/
def cardExplainsWrong : ChangeSpec := { name := "cardExplains", fn := fun _ => fun
  | [d] => { results := [.lit (.bool false)], args := [d] }
  | _ => none }
def CardExplainsWrongFalsely : Prop := cardExplainsRow.holds Try.pinned (OpenSpec.ofChange cardExplainsWrong)

/-- 'meterworkslaw12.CardNames': WHATEVER THE INPUT: true; the input reads as it did. -/
def cardNamesSpec : ChangeSpec := { name := "cardNames", fn := fun _ => fun
  | [] => { results := [.lit (.bool true)], args := [] }
  | _ => none }
def cardNamesRow : OpenClaim := { program := "ytfmdonllhchdpaa", sum := "e9d2b0c90a0225eef05e740a112181b9ac8f3e0aaa7c268cb49ca45009e8eda7", func := "meterworks/meterworkslaw12.CardNames", spec := "cardNames", unfollowed := true, recurses := true, apart := false }
def CardNamesSaid : Prop := cardNamesRow.holds Try.pinned (OpenSpec.ofChange cardNamesSpec)

/-- ITS FALSE NEIGHBOUR: 'it returns false'. Refute it at one input. -/
def cardNamesWrong : ChangeSpec := { name := "cardNames", fn := fun _ => fun
  | [] => { results := [.lit (.bool false)], args := [] }
  | _ => none }
def CardNamesWrongFalsely : Prop := cardNamesRow.holds Try.pinned (OpenSpec.ofChange cardNamesWrong)

/-- 'meterworkslaw12.CardTrue': WHATEVER THE INPUT: true; the input reads as it did. -/
def cardTrueSpec : ChangeSpec := { name := "cardTrue", fn := fun _ => fun
  | [d1, d2, d3, d4, d5] => { results := [.lit (.bool true)], args := [d1, d2, d3, d4, d5] }
  | _ => none }
def cardTrueRow : OpenClaim := { program := "ytfmdonllhchdpaa", sum := "e9d2b0c90a0225eef05e740a112181b9ac8f3e0aaa7c268cb49ca45009e8eda7", func := "meterworks/meterworkslaw12.CardTrue", spec := "cardTrue", unfollowed := true, recurses := true, apart := false }
def CardTrueSaid : Prop := cardTrueRow.holds Try.pinned (OpenSpec.ofChange cardTrueSpec)

/-- ITS FALSE NEIGHBOUR: 'it returns false'. Refute it at one input. -/
def cardTrueWrong : ChangeSpec := { name := "cardTrue", fn := fun _ => fun
  | [d1, d2, d3, d4, d5] => { results := [.lit (.bool false)], args := [d1, d2, d3, d4, d5] }
  | _ => none }
def CardTrueWrongFalsely : Prop := cardTrueRow.holds Try.pinned (OpenSpec.ofChange cardTrueWrong)

/-- 'meterworkslaw12.CardMistake': WHATEVER THE INPUT: true; the input reads as it did. -/
def cardMistakeSpec : ChangeSpec := { name := "cardMistake", fn := fun _ => fun
  | [d1, d2, d3, d4, d5] => { results := [.lit (.bool true)], args := [d1, d2, d3, d4, d5] }
  | _ => none }
def cardMistakeRow : OpenClaim := { program := "ytfmdonllhchdpaa", sum := "e9d2b0c90a0225eef05e740a112181b9ac8f3e0aaa7c268cb49ca45009e8eda7", func := "meterworks/meterworkslaw12.CardMistake", spec := "cardMistake", unfollowed := true, recurses := true, apart := false }
def CardMistakeSaid : Prop := cardMistakeRow.holds Try.pinned (OpenSpec.ofChange cardMistakeSpec)

/-- ITS FALSE NEIGHBOUR: 'it returns false'. Refute it at one input. -/
def cardMistakeWrong : ChangeSpec := { name := "cardMistake", fn := fun _ => fun
  | [d1, d2, d3, d4, d5] => { results := [.lit (.bool false)], args := [d1, d2, d3, d4, d5] }
  | _ => none }
def CardMistakeWrongFalsely : Prop := cardMistakeRow.holds Try.pinned (OpenSpec.ofChange cardMistakeWrong)

/-- 'meterworkslaw12.CardRepairs': WHATEVER THE INPUT: true; the input reads as it did. -/
def cardRepairsSpec : ChangeSpec := { name := "cardRepairs", fn := fun _ => fun
  | [d1, d2, d3, d4] => { results := [.lit (.bool true)], args := [d1, d2, d3, d4] }
  | _ => none }
def cardRepairsRow : OpenClaim := { program := "ytfmdonllhchdpaa", sum := "e9d2b0c90a0225eef05e740a112181b9ac8f3e0aaa7c268cb49ca45009e8eda7", func := "meterworks/meterworkslaw12.CardRepairs", spec := "cardRepairs", unfollowed := true, recurses := true, apart := false }
def CardRepairsSaid : Prop := cardRepairsRow.holds Try.pinned (OpenSpec.ofChange cardRepairsSpec)

/-- ITS FALSE NEIGHBOUR: 'it returns false'. Refute it at one input. -/
def cardRepairsWrong : ChangeSpec := { name := "cardRepairs", fn := fun _ => fun
  | [d1, d2, d3, d4] => { results := [.lit (.bool false)], args := [d1, d2, d3, d4] }
  | _ => none }
def CardRepairsWrongFalsely : Prop := cardRepairsRow.holds Try.pinned (OpenSpec.ofChange cardRepairsWrong)

/-- 'meterworkslaw12.CardDays': WHATEVER THE INPUT: true; the input reads as it did. -/
def cardDaysSpec : ChangeSpec := { name := "cardDays", fn := fun _ => fun
  | [d1, d2, d3] => { results := [.lit (.bool true)], args := [d1, d2, d3] }
  | _ => none }
def cardDaysRow : OpenClaim := { program := "ytfmdonllhchdpaa", sum := "e9d2b0c90a0225eef05e740a112181b9ac8f3e0aaa7c268cb49ca45009e8eda7", func := "meterworks/meterworkslaw12.CardDays", spec := "cardDays", unfollowed := true, recurses := true, apart := false }
def CardDaysSaid : Prop := cardDaysRow.holds Try.pinned (OpenSpec.ofChange cardDaysSpec)

/-- ITS FALSE NEIGHBOUR: 'it returns false'. Refute it at one input. -/
def cardDaysWrong : ChangeSpec := { name := "cardDays", fn := fun _ => fun
  | [d1, d2, d3] => { results := [.lit (.bool false)], args := [d1, d2, d3] }
  | _ => none }
def CardDaysWrongFalsely : Prop := cardDaysRow.holds Try.pinned (OpenSpec.ofChange cardDaysWrong)

/-- 'meterworkslaw12.CardOrder': WHATEVER THE INPUT: true; the input reads as it did. -/
def cardOrderSpec : ChangeSpec := { name := "cardOrder", fn := fun _ => fun
  | [d1, d2, d3, d4] => { results := [.lit (.bool true)], args := [d1, d2, d3, d4] }
  | _ => none }
def cardOrderRow : OpenClaim := { program := "ytfmdonllhchdpaa", sum := "e9d2b0c90a0225eef05e740a112181b9ac8f3e0aaa7c268cb49ca45009e8eda7", func := "meterworks/meterworkslaw12.CardOrder", spec := "cardOrder", unfollowed := true, recurses := true, apart := false }
def CardOrderSaid : Prop := cardOrderRow.holds Try.pinned (OpenSpec.ofChange cardOrderSpec)

/-- ITS FALSE NEIGHBOUR: 'it returns false'. Refute it at one input. -/
def cardOrderWrong : ChangeSpec := { name := "cardOrder", fn := fun _ => fun
  | [d1, d2, d3, d4] => { results := [.lit (.bool false)], args := [d1, d2, d3, d4] }
  | _ => none }
def CardOrderWrongFalsely : Prop := cardOrderRow.holds Try.pinned (OpenSpec.ofChange cardOrderWrong)

/-- 'meterworkslaw12.CardOwns': WHATEVER THE INPUT: true; the input reads as it did. -/
def cardOwnsSpec : ChangeSpec := { name := "cardOwns", fn := fun _ => fun
  | [d1, d2, d3] => { results := [.lit (.bool true)], args := [d1, d2, d3] }
  | _ => none }
def cardOwnsRow : OpenClaim := { program := "ytfmdonllhchdpaa", sum := "e9d2b0c90a0225eef05e740a112181b9ac8f3e0aaa7c268cb49ca45009e8eda7", func := "meterworks/meterworkslaw12.CardOwns", spec := "cardOwns", unfollowed := true, recurses := true, apart := false }
def CardOwnsSaid : Prop := cardOwnsRow.holds Try.pinned (OpenSpec.ofChange cardOwnsSpec)

/-- ITS FALSE NEIGHBOUR: 'it returns false'. Refute it at one input. -/
def cardOwnsWrong : ChangeSpec := { name := "cardOwns", fn := fun _ => fun
  | [d1, d2, d3] => { results := [.lit (.bool false)], args := [d1, d2, d3] }
  | _ => none }
def CardOwnsWrongFalsely : Prop := cardOwnsRow.holds Try.pinned (OpenSpec.ofChange cardOwnsWrong)

/- THE SECOND FORM. 'bulk': how many values and letters a reading holds, each counted each time it is reached (what is shared counts as often as it is met; a slice's spare places count too). A statement '..UptoSaid' is the law's where the arguments, and the package variables that the reading takes, are together of bulk at most 1048576: NARROWER than '..Said'. Prove '..Said' where nothing that the law and all that it calls make is longer than what came in: it says more and counts as full. Else prove '..UptoSaid'. A law counts once. -/
mutual
def uptoBulk {H : Type} : DataW H → Nat
  | .lit (.string bytes) => bytes.length + 1
  | .lit _ => 1
  | .nil => 1
  | .ptr d => uptoBulk d + 1
  | .slice elems spare => uptoBulkAll elems + uptoBulkAll spare + 1
  | .agg parts => uptoBulkAll parts + 1
  | .iface _ d => uptoBulk d + 1
  | .map entries => uptoBulkEntries entries + 1
  | .held _ => 1
def uptoBulkAll {H : Type} : List (DataW H) → Nat
  | [] => 0
  | d :: r => uptoBulk d + uptoBulkAll r
def uptoBulkEntries {H : Type} : List (Lit × DataW H) → Nat
  | [] => 0
  | x :: r => uptoBulkEntry x + uptoBulkEntries r
def uptoBulkEntry {H : Type} : Lit × DataW H → Nat
  | (.string bytes, d) => bytes.length + uptoBulk d + 1
  | (_, d) => uptoBulk d + 1
 end
def uptoSmall : (H : Type) → List (DataW H) → Bool := fun _ ds => decide (uptoBulkAll ds ≤ 1048576)
def OpenSpec.upto (s : _root_.Go.ChangeSpec) : _root_.Go.OpenSpec := { _root_.Go.OpenSpec.ofChange s with cond := some uptoSmall }

/-- 'meterworkslaw12.CardMisfits', WHERE WHAT IT READS IS OF BULK AT MOST 1048576: true; the input reads as it did. -/
def cardMisfitsUptoRow : OpenClaim := { program := "ytfmdonllhchdpaa", sum := "e9d2b0c90a0225eef05e740a112181b9ac8f3e0aaa7c268cb49ca45009e8eda7", func := "meterworks/meterworkslaw12.CardMisfits", spec := "cardMisfits", unfollowed := true, recurses := true, apart := false, narrowed := true }
def CardMisfitsUptoSaid : Prop := cardMisfitsUptoRow.holds Try.pinned (OpenSpec.upto cardMisfitsSpec)

/-- 'meterworkslaw12.CardExplains', WHERE WHAT IT READS IS OF BULK AT MOST 1048576: true; the input reads as it did. -/
def cardExplainsUptoRow : OpenClaim := { program := "ytfmdonllhchdpaa", sum := "e9d2b0c90a0225eef05e740a112181b9ac8f3e0aaa7c268cb49ca45009e8eda7", func := "meterworks/meterworkslaw12.CardExplains", spec := "cardExplains", unfollowed := true, recurses := true, apart := false, narrowed := true }
def CardExplainsUptoSaid : Prop := cardExplainsUptoRow.holds Try.pinned (OpenSpec.upto cardExplainsSpec)

/-- 'meterworkslaw12.CardNames', WHERE WHAT IT READS IS OF BULK AT MOST 1048576: true; the input reads as it did. -/
def cardNamesUptoRow : OpenClaim := { program := "ytfmdonllhchdpaa", sum := "e9d2b0c90a0225eef05e740a112181b9ac8f3e0aaa7c268cb49ca45009e8eda7", func := "meterworks/meterworkslaw12.CardNames", spec := "cardNames", unfollowed := true, recurses := true, apart := false, narrowed := true }
def CardNamesUptoSaid : Prop := cardNamesUptoRow.holds Try.pinned (OpenSpec.upto cardNamesSpec)

/-- 'meterworkslaw12.CardTrue', WHERE WHAT IT READS IS OF BULK AT MOST 1048576: true; the input reads as it did. -/
def cardTrueUptoRow : OpenClaim := { program := "ytfmdonllhchdpaa", sum := "e9d2b0c90a0225eef05e740a112181b9ac8f3e0aaa7c268cb49ca45009e8eda7", func := "meterworks/meterworkslaw12.CardTrue", spec := "cardTrue", unfollowed := true, recurses := true, apart := false, narrowed := true }
def CardTrueUptoSaid : Prop := cardTrueUptoRow.holds Try.pinned (OpenSpec.upto cardTrueSpec)

/-- 'meterworkslaw12.CardMistake', WHERE WHAT IT READS IS OF BULK AT MOST 1048576: true; the input reads as it did. -/
def cardMistakeUptoRow : OpenClaim := { program := "ytfmdonllhchdpaa", sum := "e9d2b0c90a0225eef05e740a112181b9ac8f3e0aaa7c268cb49ca45009e8eda7", func := "meterworks/meterworkslaw12.CardMistake", spec := "cardMistake", unfollowed := true, recurses := true, apart := false, narrowed := true }
def CardMistakeUptoSaid : Prop := cardMistakeUptoRow.holds Try.pinned (OpenSpec.upto cardMistakeSpec)

/-- 'meterworkslaw12.CardRepairs', WHERE WHAT IT READS IS OF BULK AT MOST 1048576: true; the input reads as it did. -/
def cardRepairsUptoRow : OpenClaim := { program := "ytfmdonllhchdpaa", sum := "e9d2b0c90a0225eef05e740a112181b9ac8f3e0aaa7c268cb49ca45009e8eda7", func := "meterworks/meterworkslaw12.CardRepairs", spec := "cardRepairs", unfollowed := true, recurses := true, apart := false, narrowed := true }
def CardRepairsUptoSaid : Prop := cardRepairsUptoRow.holds Try.pinned (OpenSpec.upto cardRepairsSpec)

/-- 'meterworkslaw12.CardDays', WHERE WHAT IT READS IS OF BULK AT MOST 1048576: true; the input reads as it did. -/
def cardDaysUptoRow : OpenClaim := { program := "ytfmdonllhchdpaa", sum := "e9d2b0c90a0225eef05e740a112181b9ac8f3e0aaa7c268cb49ca45009e8eda7", func := "meterworks/meterworkslaw12.CardDays", spec := "cardDays", unfollowed := true, recurses := true, apart := false, narrowed := true }
def CardDaysUptoSaid : Prop := cardDaysUptoRow.holds Try.pinned (OpenSpec.upto cardDaysSpec)

/-- 'meterworkslaw12.CardOrder', WHERE WHAT IT READS IS OF BULK AT MOST 1048576: true; the input reads as it did. -/
def cardOrderUptoRow : OpenClaim := { program := "ytfmdonllhchdpaa", sum := "e9d2b0c90a0225eef05e740a112181b9ac8f3e0aaa7c268cb49ca45009e8eda7", func := "meterworks/meterworkslaw12.CardOrder", spec := "cardOrder", unfollowed := true, recurses := true, apart := false, narrowed := true }
def CardOrderUptoSaid : Prop := cardOrderUptoRow.holds Try.pinned (OpenSpec.upto cardOrderSpec)

/-- 'meterworkslaw12.CardOwns', WHERE WHAT IT READS IS OF BULK AT MOST 1048576: true; the input reads as it did. -/
def cardOwnsUptoRow : OpenClaim := { program := "ytfmdonllhchdpaa", sum := "e9d2b0c90a0225eef05e740a112181b9ac8f3e0aaa7c268cb49ca45009e8eda7", func := "meterworks/meterworkslaw12.CardOwns", spec := "cardOwns", unfollowed := true, recurses := true, apart := false, narrowed := true }
def CardOwnsUptoSaid : Prop := cardOwnsUptoRow.holds Try.pinned (OpenSpec.upto cardOwnsSpec)

end Rows
end Go.Proofs.Ytfmdonllhchdpaa

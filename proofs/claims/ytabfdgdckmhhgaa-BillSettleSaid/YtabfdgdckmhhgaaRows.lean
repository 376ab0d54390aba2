/-
  No cell of these rows narrows 'for every input' (looked for: loops, veiled, ifaces, maps, wideKeys, modest, calm, conditions, laid).
  DERIVED. THE GIVEN ROWS OF THIS SEAT. 7 by the template 'for every input the law returns true; each argument reads behind the call as it read before'; 0 by the template 'total and deterministic' (their statements: YtabfdgdckmhhgaaTotals.lean).
  GIVEN WITH THE SEED: the statements are not yours to turn. If you find one false, say at which input.
  Laid BY PROGRAM, IN A SANDBOX (cutbox-rows.mjs): the forced cells as the released guide's own fill.sh prints them over the translation ef619d8fdb8511b0… (all of the seat's roots in one cut). By AI agents, Wed Nov 11 2026. No macro, syntax, notation, axiom, sorry.
-/
import Derived.Test.YtabfdgdckmhhgaaChecked
import GoSem.Claim
import GoSem.ClaimJoined
import GoSem.ClaimMapViews
import Derived.JoinedTies
import Derived.KernelRfl
namespace Go.Proofs.Ytabfdgdckmhhgaa
/- THE CELL 'sum', in the pinned program and in every row, IS THE sha256 OF THE DUMP (.gsa) THAT YtabfdgdckmhhgaaProg.lean LOADS. Nothing in Lean hashes anything: it is a label: what it is worth is what the hold of that sum in a sandbox is worth. -/
noncomputable def Try.pinned : Pinned := { name := "ytabfdgdckmhhgaa", sum := "ef619d8fdb8511b0a465cf3cd0681625005c8f5c5e57f076cc77078683eaec76", checked := Try.checked }
namespace Rows
def none {H : Type} : Left H := { results := [], args := [] }

/-- 'meterworkslaw13.BillCosts': WHATEVER THE INPUT: true; the input reads as it did. -/
def billCostsSpec : ChangeSpec := { name := "billCosts", fn := fun _ => fun
  | [d1, d2, d3] => { results := [.lit (.bool true)], args := [d1, d2, d3] }
  | _ => none }
def billCostsRow : OpenClaim := { program := "ytabfdgdckmhhgaa", sum := "ef619d8fdb8511b0a465cf3cd0681625005c8f5c5e57f076cc77078683eaec76", func := "meterworks/meterworkslaw13.BillCosts", spec := "billCosts", unfollowed := true, recurses := true, plainKeys := false, apart := false }
def BillCostsSaid : Prop := billCostsRow.holds Try.pinned (OpenSpec.ofChange billCostsSpec)

/-- ITS FALSE NEIGHBOUR: 'it returns false'. Refute it at one input. -/
def billCostsWrong : ChangeSpec := { name := "billCosts", fn := fun _ => fun
  | [d1, d2, d3] => { results := [.lit (.bool false)], args := [d1, d2, d3] }
  | _ => none }
def BillCostsWrongFalsely : Prop := billCostsRow.holds Try.pinned (OpenSpec.ofChange billCostsWrong)

/-- 'meterworkslaw13.BillBills': WHATEVER THE INPUT: true; the input reads as it did. -/
def billBillsSpec : ChangeSpec := { name := "billBills", fn := fun _ => fun
  | [d1, d2, d3] => { results := [.lit (.bool true)], args := [d1, d2, d3] }
  | _ => none }
def billBillsRow : OpenClaim := { program := "ytabfdgdckmhhgaa", sum := "ef619d8fdb8511b0a465cf3cd0681625005c8f5c5e57f076cc77078683eaec76", func := "meterworks/meterworkslaw13.BillBills", spec := "billBills", unfollowed := true, recurses := true, plainKeys := false, apart := false }
def BillBillsSaid : Prop := billBillsRow.holds Try.pinned (OpenSpec.ofChange billBillsSpec)

/-- ITS FALSE NEIGHBOUR: 'it returns false'. Refute it at one input. -/
def billBillsWrong : ChangeSpec := { name := "billBills", fn := fun _ => fun
  | [d1, d2, d3] => { results := [.lit (.bool false)], args := [d1, d2, d3] }
  | _ => none }
def BillBillsWrongFalsely : Prop := billBillsRow.holds Try.pinned (OpenSpec.ofChange billBillsWrong)

/-- 'meterworkslaw13.BillSums': WHATEVER THE INPUT: true; the input reads as it did. -/
def billSumsSpec : ChangeSpec := { name := "billSums", fn := fun _ => fun
  | [d] => { results := [.lit (.bool true)], args := [d] }
  | _ => none }
def billSumsRow : OpenClaim := { program := "ytabfdgdckmhhgaa", sum := "ef619d8fdb8511b0a465cf3cd0681625005c8f5c5e57f076cc77078683eaec76", func := "meterworks/meterworkslaw13.BillSums", spec := "billSums", unfollowed := true, recurses := true, plainKeys := false, apart := false }
def BillSumsSaid : Prop := billSumsRow.holds Try.pinned (OpenSpec.ofChange billSumsSpec)

/-- ITS FALSE NEIGHBOUR: 'it returns false'. Refute it at one input. -/
def billSumsWrong : ChangeSpec := { name := "billSums", fn := fun _ => fun
  | [d] => { results := [.lit (.bool false)], args := [d] }
  | _ => none }
def BillSumsWrongFalsely : Prop := billSumsRow.holds Try.pinned (OpenSpec.ofChange billSumsWrong)

/-- 'meterworkslaw13.BillLate': WHATEVER THE INPUT: true; the input reads as it did. -/
def billLateSpec : ChangeSpec := { name := "billLate", fn := fun _ => fun
  | [d1, d2, d3] => { results := [.lit (.bool true)], args := [d1, d2, d3] }
  | _ => none }
def billLateRow : OpenClaim := { program := "ytabfdgdckmhhgaa", sum := "ef619d8fdb8511b0a465cf3cd0681625005c8f5c5e57f076cc77078683eaec76", func := "meterworks/meterworkslaw13.BillLate", spec := "billLate", unfollowed := true, recurses := true, plainKeys := false, apart := false }
def BillLateSaid : Prop := billLateRow.holds Try.pinned (OpenSpec.ofChange billLateSpec)

/-- ITS FALSE NEIGHBOUR: 'it returns false'. Refute it at one input. -/
def billLateWrong : ChangeSpec := { name := "billLate", fn := fun _ => fun
  | [d1, d2, d3] => { results := [.lit (.bool false)], args := [d1, d2, d3] }
  | _ => none }
def BillLateWrongFalsely : Prop := billLateRow.holds Try.pinned (OpenSpec.ofChange billLateWrong)

/-- 'meterworkslaw13.BillOrder': WHATEVER THE INPUT: true; the input reads as it did. -/
def billOrderSpec : ChangeSpec := { name := "billOrder", fn := fun _ => fun
  | [d1, d2, d3, d4] => { results := [.lit (.bool true)], args := [d1, d2, d3, d4] }
  | _ => none }
def billOrderRow : OpenClaim := { program := "ytabfdgdckmhhgaa", sum := "ef619d8fdb8511b0a465cf3cd0681625005c8f5c5e57f076cc77078683eaec76", func := "meterworks/meterworkslaw13.BillOrder", spec := "billOrder", unfollowed := true, recurses := true, plainKeys := false, apart := false }
def BillOrderSaid : Prop := billOrderRow.holds Try.pinned (OpenSpec.ofChange billOrderSpec)

/-- ITS FALSE NEIGHBOUR: 'it returns false'. Refute it at one input. -/
def billOrderWrong : ChangeSpec := { name := "billOrder", fn := fun _ => fun
  | [d1, d2, d3, d4] => { results := [.lit (.bool false)], args := [d1, d2, d3, d4] }
  | _ => none }
def BillOrderWrongFalsely : Prop := billOrderRow.holds Try.pinned (OpenSpec.ofChange billOrderWrong)

/-- 'meterworkslaw13.BillSettle': WHATEVER THE INPUT: true; the input reads as it did. -/
def billSettleSpec : ChangeSpec := { name := "billSettle", fn := fun _ => fun
  | [d1, d2, d3] => { results := [.lit (.bool true)], args := [d1, d2, d3] }
  | _ => none }
def billSettleRow : OpenClaim := { program := "ytabfdgdckmhhgaa", sum := "ef619d8fdb8511b0a465cf3cd0681625005c8f5c5e57f076cc77078683eaec76", func := "meterworks/meterworkslaw13.BillSettle", spec := "billSettle", unfollowed := true, recurses := true, plainKeys := false, apart := false }
def BillSettleSaid : Prop := billSettleRow.holds Try.pinned (OpenSpec.ofChange billSettleSpec)

/-- ITS FALSE NEIGHBOUR: 'it returns false'. Refute it at one input. -/
def billSettleWrong : ChangeSpec := { name := "billSettle", fn := fun _ => fun
  | [d1, d2, d3] => { results := [.lit (.bool false)], args := [d1, d2, d3] }
  | _ => none }
def BillSettleWrongFalsely : Prop := billSettleRow.holds Try.pinned (OpenSpec.ofChange billSettleWrong)

/-- 'meterworkslaw13.BillRises': WHATEVER THE INPUT: true; the input reads as it did. -/
def billRisesSpec : ChangeSpec := { name := "billRises", fn := fun _ => fun
  | [d1, d2, d3, d4] => { results := [.lit (.bool true)], args := [d1, d2, d3, d4] }
  | _ => none }
def billRisesRow : OpenClaim := { program := "ytabfdgdckmhhgaa", sum := "ef619d8fdb8511b0a465cf3cd0681625005c8f5c5e57f076cc77078683eaec76", func := "meterworks/meterworkslaw13.BillRises", spec := "billRises", unfollowed := true, recurses := true, plainKeys := false, apart := false }
def BillRisesSaid : Prop := billRisesRow.holds Try.pinned (OpenSpec.ofChange billRisesSpec)

/-- ITS FALSE NEIGHBOUR: 'it returns false'. Refute it at one input. -/
def billRisesWrong : ChangeSpec := { name := "billRises", fn := fun _ => fun
  | [d1, d2, d3, d4] => { results := [.lit (.bool false)], args := [d1, d2, d3, d4] }
  | _ => none }
def BillRisesWrongFalsely : Prop := billRisesRow.holds Try.pinned (OpenSpec.ofChange billRisesWrong)

/- THE SECOND FORM. 'bulk': how many values and letters a reading holds, each counted each time it is reached (what is shared counts as often as it is met; a slice's spare places count too). A statement '..UptoSaid' is the law's where the arguments, and the package variables that the reading takes, are together of bulk at most 1048576: NARROWER than '..Said'. Prove '..Said' where nothing that the law and all that it calls make is longer than what came in: it says more and counts as full. Else prove '..UptoSaid'. A law counts once. -/
mutual
def uptoBulk {H : Type} : DataW H → Nat
  | .lit (.string bytes) => bytes.length + 1
  | .lit _ => 1
  | .nil => 1
  | .ptr d => uptoBulk d + 1
  | .slice elems spare => uptoBulkAll elems + uptoBulkAll spare + 1
  | .agg parts => uptoBulkAll parts + 1
  | .iface _ d => uptoBulk d + 1
  | .map entries => uptoBulkEntries entries + 1
  | .held _ => 1
def uptoBulkAll {H : Type} : List (DataW H) → Nat
  | [] => 0
  | d :: r => uptoBulk d + uptoBulkAll r
def uptoBulkEntries {H : Type} : List (Lit × DataW H) → Nat
  | [] => 0
  | x :: r => uptoBulkEntry x + uptoBulkEntries r
def uptoBulkEntry {H : Type} : Lit × DataW H → Nat
  | (.string bytes, d) => bytes.length + uptoBulk d + 1
  | (_, d) => uptoBulk d + 1
 end
def uptoSmall : (H : Type) → List (DataW H) → Bool := fun _ ds => decide (uptoBulkAll ds ≤ 1048576)
def OpenSpec.upto (s : _root_.Go.ChangeSpec) : _root_.Go.OpenSpec := { _root_.Go.OpenSpec.ofChange s with cond := some uptoSmall }

/-- 'meterworkslaw13.BillCosts', WHERE WHAT IT READS IS OF BULK AT MOST 1048576: true; the input reads as it did. -/
def billCostsUptoRow : OpenClaim := { program := "ytabfdgdckmhhgaa", sum := "ef619d8fdb8511b0a465cf3cd0681625005c8f5c5e57f076cc77078683eaec76", func := "meterworks/meterworkslaw13.BillCosts", spec := "billCosts", unfollowed := true, recurses := true, plainKeys := false, apart := false, narrowed := true }
def BillCostsUptoSaid : Prop := billCostsUptoRow.holds Try.pinned (OpenSpec.upto billCostsSpec)

/-- 'meterworkslaw13.BillBills', WHERE WHAT IT READS IS OF BULK AT MOST 1048576: true; the input reads as it did. -/
def billBillsUptoRow : OpenClaim := { program := "ytabfdgdckmhhgaa", sum := "ef619d8fdb8511b0a465cf3cd0681625005c8f5c5e57f076cc77078683eaec76", func := "meterworks/meterworkslaw13.BillBills", spec := "billBills", unfollowed := true, recurses := true, plainKeys := false, apart := false, narrowed := true }
def BillBillsUptoSaid : Prop := billBillsUptoRow.holds Try.pinned (OpenSpec.upto billBillsSpec)

/-- 'meterworkslaw13.BillSums', WHERE WHAT IT READS IS OF BULK AT MOST 1048576: true; the input reads as it did. -/
def billSumsUptoRow : OpenClaim := { program := "ytabfdgdckmhhgaa", sum := "ef619d8fdb8511b0a465cf3cd0681625005c8f5c5e57f076cc77078683eaec76", func := "meterworks/meterworkslaw13.BillSums", spec := "billSums", unfollowed := true, recurses := true, plainKeys := false, apart := false, narrowed := true }
def BillSumsUptoSaid : Prop := billSumsUptoRow.holds Try.pinned (OpenSpec.upto billSumsSpec)

/-- 'meterworkslaw13.BillLate', WHERE WHAT IT READS IS OF BULK AT MOST 1048576: true; the input reads as it did. -/
def billLateUptoRow : OpenClaim := { program := "ytabfdgdckmhhgaa", sum := "ef619d8fdb8511b0a465cf3cd0681625005c8f5c5e57f076cc77078683eaec76", func := "meterworks/meterworkslaw13.BillLate", spec := "billLate", unfollowed := true, recurses := true, plainKeys := false, apart := false, narrowed := true }
def BillLateUptoSaid : Prop := billLateUptoRow.holds Try.pinned (OpenSpec.upto billLateSpec)

/-- 'meterworkslaw13.BillOrder', WHERE WHAT IT READS IS OF BULK AT MOST 1048576: true; the input reads as it did. -/
def billOrderUptoRow : OpenClaim := { program := "ytabfdgdckmhhgaa", sum := "ef619d8fdb8511b0a465cf3cd0681625005c8f5c5e57f076cc77078683eaec76", func := "meterworks/meterworkslaw13.BillOrder", spec := "billOrder", unfollowed := true, recurses := true, plainKeys := false, apart := false, narrowed := true }
def BillOrderUptoSaid : Prop := billOrderUptoRow.holds Try.pinned (OpenSpec.upto billOrderSpec)

/-- 'meterworkslaw13.BillSettle', WHERE WHAT IT READS IS OF BULK AT MOST 1048576: true; the input reads as it did. -/
def billSettleUptoRow : OpenClaim := { program := "ytabfdgdckmhhgaa", sum := "ef619d8fdb8511b0a465cf3cd0681625005c8f5c5e57f076cc77078683eaec76", func := "meterworks/meterworkslaw13.BillSettle", spec := "billSettle", unfollowed := true, recurses := true, plainKeys := false, apart := false, narrowed := true }
def BillSettleUptoSaid : Prop := billSettleUptoRow.holds Try.pinned (OpenSpec.upto billSettleSpec)

/-- 'meterworkslaw13.BillRises', WHERE WHAT IT READS IS OF BULK AT MOST 1048576: true; the input reads as it did. -/
def billRisesUptoRow : OpenClaim := { program := "ytabfdgdckmhhgaa", sum := "ef619d8fdb8511b0a465cf3cd0681625005c8f5c5e57f076cc77078683eaec76", func := "meterworks/meterworkslaw13.BillRises", spec := "billRises", unfollowed := true, recurses := true, plainKeys := false, apart := false, narrowed := true }
def BillRisesUptoSaid : Prop := billRisesUptoRow.holds Try.pinned (OpenSpec.upto billRisesSpec)

end Rows
end Go.Proofs.Ytabfdgdckmhhgaa

/-
  No cell of these rows narrows 'for every input' (looked for: loops, veiled, ifaces, maps, wideKeys, modest, calm, conditions, laid).
  DERIVED. THE GIVEN ROWS OF THIS SEAT. 5 by the template 'for every input the law returns true; each argument reads behind the call as it read before'; 0 by the template 'total and deterministic' (their statements: YtkekecfocnidpaaTotals.lean).
  GIVEN WITH THE SEED: the statements are not yours to turn. If you find one false, say at which input.
  Laid BY PROGRAM, IN A SANDBOX (cutbox-rows.mjs): the forced cells as the released guide's own fill.sh prints them over the translation bd63c514aa163fe1… (all of the seat's roots in one cut). By AI agents, Wed Nov 11 2026. No macro, syntax, notation, axiom, sorry.
-/
import Derived.Test.YtkekecfocnidpaaChecked
import GoSem.Claim
import GoSem.ClaimJoined
import GoSem.ClaimMapViews
import Derived.JoinedTies
import Derived.KernelRfl
namespace Go.Proofs.Ytkekecfocnidpaa
/- THE CELL 'sum', in the pinned program and in every row, IS THE sha256 OF THE DUMP (.gsa) THAT YtkekecfocnidpaaProg.lean LOADS. Nothing in Lean hashes anything: it is a label: what it is worth is what the hold of that sum in a sandbox is worth. -/
noncomputable def Try.pinned : Pinned := { name := "ytkekecfocnidpaa", sum := "bd63c514aa163fe19d159938973977c6884c9c4b5802a3ed8fe9739458235e2b", checked := Try.checked }
namespace Rows
def none {H : Type} : Left H := { results := [], args := [] }

/-- 'meterworkslaw07.TermCounts': WHATEVER THE INPUT: true; the input reads as it did. -/
def termCountsSpec : ChangeSpec := { name := "termCounts", fn := fun _ => fun
  | [d1, d2, d3] => { results := [.lit (.bool true)], args := [d1, d2, d3] }
  | _ => none }
def termCountsRow : OpenClaim := { program := "ytkekecfocnidpaa", sum := "bd63c514aa163fe19d159938973977c6884c9c4b5802a3ed8fe9739458235e2b", func := "meterworks/meterworkslaw07.TermCounts", spec := "termCounts", unfollowed := true, recurses := true, apart := false }
def TermCountsSaid : Prop := termCountsRow.holds Try.pinned (OpenSpec.ofChange termCountsSpec)

/-- ITS FALSE NEIGHBOUR: 'it returns false'. Refute it at one input. -/
def termCountsWrong : ChangeSpec := { name := "termCounts", fn := fun _ => fun
  | [d1, d2, d3] => { results := [.lit (.bool false)], args := [d1, d2, d3] }
  | _ => none }
def TermCountsWrongFalsely : Prop := termCountsRow.holds Try.pinned (OpenSpec.ofChange termCountsWrong)

/-- 'meterworkslaw07.TermBalance': WHATEVER THE INPUT: true; the input reads as it did. -/
def termBalanceSpec : ChangeSpec := { name := "termBalance", fn := fun _ => fun
  | [d1, d2] => { results := [.lit (.bool true)], args := [d1, d2] }
  | _ => none }
def termBalanceRow : OpenClaim := { program := "ytkekecfocnidpaa", sum := "bd63c514aa163fe19d159938973977c6884c9c4b5802a3ed8fe9739458235e2b", func := "meterworks/meterworkslaw07.TermBalance", spec := "termBalance", unfollowed := true, recurses := true, apart := false }
def TermBalanceSaid : Prop := termBalanceRow.holds Try.pinned (OpenSpec.ofChange termBalanceSpec)

/-- ITS FALSE NEIGHBOUR: 'it returns false'. Refute it at one input. -/
def termBalanceWrong : ChangeSpec := { name := "termBalance", fn := fun _ => fun
  | [d1, d2] => { results := [.lit (.bool false)], args := [d1, d2] }
  | _ => none }
def TermBalanceWrongFalsely : Prop := termBalanceRow.holds Try.pinned (OpenSpec.ofChange termBalanceWrong)

/-- 'meterworkslaw07.TermStands': WHATEVER THE INPUT: true; the input reads as it did. -/
def termStandsSpec : ChangeSpec := { name := "termStands", fn := fun _ => fun
  | [d1, d2, d3] => { results := [.lit (.bool true)], args := [d1, d2, d3] }
  | _ => none }
def termStandsRow : OpenClaim := { program := "ytkekecfocnidpaa", sum := "bd63c514aa163fe19d159938973977c6884c9c4b5802a3ed8fe9739458235e2b", func := "meterworks/meterworkslaw07.TermStands", spec := "termStands", unfollowed := true, recurses := true, apart := false }
def TermStandsSaid : Prop := termStandsRow.holds Try.pinned (OpenSpec.ofChange termStandsSpec)

/-- ITS FALSE NEIGHBOUR: 'it returns false'. Refute it at one input. -/
def termStandsWrong : ChangeSpec := { name := "termStands", fn := fun _ => fun
  | [d1, d2, d3] => { results := [.lit (.bool false)], args := [d1, d2, d3] }
  | _ => none }
def TermStandsWrongFalsely : Prop := termStandsRow.holds Try.pinned (OpenSpec.ofChange termStandsWrong)

/-- 'meterworkslaw07.TermOrder': WHATEVER THE INPUT: true; the input reads as it did. -/
def termOrderSpec : ChangeSpec := { name := "termOrder", fn := fun _ => fun
  | [d1, d2, d3, d4, d5] => { results := [.lit (.bool true)], args := [d1, d2, d3, d4, d5] }
  | _ => none }
def termOrderRow : OpenClaim := { program := "ytkekecfocnidpaa", sum := "bd63c514aa163fe19d159938973977c6884c9c4b5802a3ed8fe9739458235e2b", func := "meterworks/meterworkslaw07.TermOrder", spec := "termOrder", unfollowed := true, recurses := true, apart := false }
def TermOrderSaid : Prop := termOrderRow.holds Try.pinned (OpenSpec.ofChange termOrderSpec)

/-- ITS FALSE NEIGHBOUR: 'it returns false'. Refute it at one input. -/
def termOrderWrong : ChangeSpec := { name := "termOrder", fn := fun _ => fun
  | [d1, d2, d3, d4, d5] => { results := [.lit (.bool false)], args := [d1, d2, d3, d4, d5] }
  | _ => none }
def TermOrderWrongFalsely : Prop := termOrderRow.holds Try.pinned (OpenSpec.ofChange termOrderWrong)

/-- 'meterworkslaw07.TermMore': WHATEVER THE INPUT: true; the input reads as it did. -/
def termMoreSpec : ChangeSpec := { name := "termMore", fn := fun _ => fun
  | [d1, d2, d3] => { results := [.lit (.bool true)], args := [d1, d2, d3] }
  | _ => none }
def termMoreRow : OpenClaim := { program := "ytkekecfocnidpaa", sum := "bd63c514aa163fe19d159938973977c6884c9c4b5802a3ed8fe9739458235e2b", func := "meterworks/meterworkslaw07.TermMore", spec := "termMore", unfollowed := true, recurses := true, apart := false }
def TermMoreSaid : Prop := termMoreRow.holds Try.pinned (OpenSpec.ofChange termMoreSpec)

/-- ITS FALSE NEIGHBOUR: 'it returns false'. Refute it at one input. -/
def termMoreWrong : ChangeSpec := { name := "termMore", fn := fun _ => fun
  | [d1, d2, d3] => { results := [.lit (.bool false)], args := [d1, d2, d3] }
  | _ => none }
def TermMoreWrongFalsely : Prop := termMoreRow.holds Try.pinned (OpenSpec.ofChange termMoreWrong)

/- THE SECOND FORM. 'bulk': how many values and letters a reading holds, each counted each time it is reached (what is shared counts as often as it is met; a slice's spare places count too). A statement '..UptoSaid' is the law's where the arguments, and the package variables that the reading takes, are together of bulk at most 1048576: NARROWER than '..Said'. Prove '..Said' where nothing that the law and all that it calls make is longer than what came in: it says more and counts as full. Else prove '..UptoSaid'. A law counts once. -/
mutual
def uptoBulk {H : Type} : DataW H → Nat
  | .lit (.string bytes) => bytes.length + 1
  | .lit _ => 1
  | .nil => 1
  | .ptr d => uptoBulk d + 1
  | .slice elems spare => uptoBulkAll elems + uptoBulkAll spare + 1
  | .agg parts => uptoBulkAll parts + 1
  | .iface _ d => uptoBulk d + 1
  | .map entries => uptoBulkEntries entries + 1
  | .held _ => 1
def uptoBulkAll {H : Type} : List (DataW H) → Nat
  | [] => 0
  | d :: r => uptoBulk d + uptoBulkAll r
def uptoBulkEntries {H : Type} : List (Lit × DataW H) → Nat
  | [] => 0
  | x :: r => uptoBulkEntry x + uptoBulkEntries r
def uptoBulkEntry {H : Type} : Lit × DataW H → Nat
  | (.string bytes, d) => bytes.length + uptoBulk d + 1
  | (_, d) => uptoBulk d + 1
 end
def uptoSmall : (H : Type) → List (DataW H) → Bool := fun _ ds => decide (uptoBulkAll ds ≤ 1048576)
def OpenSpec.upto (s : _root_.Go.ChangeSpec) : _root_.Go.OpenSpec := { _root_.Go.OpenSpec.ofChange s with cond := some uptoSmall }

/-- 'meterworkslaw07.TermCounts', WHERE WHAT IT READS IS OF BULK AT MOST 1048576: true; the input reads as it did. -/
def termCountsUptoRow : OpenClaim := { program := "ytkekecfocnidpaa", sum := "bd63c514aa163fe19d159938973977c6884c9c4b5802a3ed8fe9739458235e2b", func := "meterworks/meterworkslaw07.TermCounts", spec := "termCounts", unfollowed := true, recurses := true, apart := false, narrowed := true }
def TermCountsUptoSaid : Prop := termCountsUptoRow.holds Try.pinned (OpenSpec.upto termCountsSpec)

/-- 'meterworkslaw07.TermBalance', WHERE WHAT IT READS IS OF BULK AT MOST 1048576: true; the input reads as it did. -/
def termBalanceUptoRow : OpenClaim := { program := "ytkekecfocnidpaa", sum := "bd63c514aa163fe19d159938973977c6884c9c4b5802a3ed8fe9739458235e2b", func := "meterworks/meterworkslaw07.TermBalance", spec := "termBalance", unfollowed := true, recurses := true, apart := false, narrowed := true }
def TermBalanceUptoSaid : Prop := termBalanceUptoRow.holds Try.pinned (OpenSpec.upto termBalanceSpec)

/-- 'meterworkslaw07.TermStands', WHERE WHAT IT READS IS OF BULK AT MOST 1048576: true; the input reads as it did. -/
def termStandsUptoRow : OpenClaim := { program := "ytkekecfocnidpaa", sum := "bd63c514aa163fe19d159938973977c6884c9c4b5802a3ed8fe9739458235e2b", func := "meterworks/meterworkslaw07.TermStands", spec := "termStands", unfollowed := true, recurses := true, apart := false, narrowed := true }
def TermStandsUptoSaid : Prop := termStandsUptoRow.holds Try.pinned (OpenSpec.upto termStandsSpec)

/-- 'meterworkslaw07.TermOrder', WHERE WHAT IT READS IS OF BULK AT MOST 1048576: true; the input reads as it did. -/
def termOrderUptoRow : OpenClaim := { program := "ytkekecfocnidpaa", sum := "bd63c514aa163fe19d159938973977c6884c9c4b5802a3ed8fe9739458235e2b", func := "meterworks/meterworkslaw07.TermOrder", spec := "termOrder", unfollowed := true, recurses := true, apart := false, narrowed := true }
def TermOrderUptoSaid : Prop := termOrderUptoRow.holds Try.pinned (OpenSpec.upto termOrderSpec)

/-- 'meterworkslaw07.TermMore', WHERE WHAT IT READS IS OF BULK AT MOST 1048576: true; the input reads as it did. -/
def termMoreUptoRow : OpenClaim := { program := "ytkekecfocnidpaa", sum := "bd63c514aa163fe19d159938973977c6884c9c4b5802a3ed8fe9739458235e2b", func := "meterworks/meterworkslaw07.TermMore", spec := "termMore", unfollowed := true, recurses := true, apart := false, narrowed := true }
def TermMoreUptoSaid : Prop := termMoreUptoRow.holds Try.pinned (OpenSpec.upto termMoreSpec)

end Rows
end Go.Proofs.Ytkekecfocnidpaa

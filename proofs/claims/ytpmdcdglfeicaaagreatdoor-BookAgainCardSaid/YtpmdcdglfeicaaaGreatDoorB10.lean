/- What the arguments of the statements about books read as, and what the library's tables hold; no condition but those in each. -/
import Derived.Test.YtpmdcdglfeicaaaGreatDoorD1
import Derived.Test.YtpmdcdglfeicaaaGreatDoorB5
import Derived.Test.YtpmdcdglfeicaaaGreatDoorB6
import Derived.Test.YtpmdcdglfeicaaaGreatDoorRows
import Derived.LaidMore
import Derived.Lay
import Derived.ChangeMaps5
import Derived.Test.YtpmdcdglfeicaaaGreatDoorB9
set_option maxRecDepth 20000
set_option linter.unusedSimpArgs false
set_option linter.unusedVariables false
set_option linter.unusedSectionVars false
set_option linter.deprecated false
namespace Go.Mw
open Go.Proofs Go.RowKit Go.ChangeShapes Go.WideShapes Go.Bk
theorem rows_map {α : Type} {f : α → List D} : ∀ {rows : List (List D)}, (∀ r ∈ rows, ∃ x, r = f x) → ∃ l : List α, rows = l.map f
 | [], _ => ⟨[], rfl⟩
 | r :: rows, h => by
  obtain ⟨x, rfl⟩ := h r (by simp)
  obtain ⟨l, rfl⟩ := rows_map (rows := rows) fun q hq => h q (List.mem_cons_of_mem _ hq)
  exact ⟨x :: l, rfl⟩
section
variable {H : Type} {enc : TypeId × Value → H} {W : World} {v : Value} {d : DataW H} {ps : List MemPlace}
abbrev KReads (enc : TypeId × Value → H) (W : World) (t : TypeId) (Q : List D → Prop) : Prop := Reads enc Tryz.prog W 0 (fun _ => true) true t Q
theorem r_sl {t e : TypeId} {k : Nat} {α : Type} {f : α → List D} (ht : Tryz.prog.underlying t = some (.slice e)) (hr : KReads enc W e (fun ds => ∃ x : α, ds = f x)) (hc : Tryz.prog.cellsOf e = k) (h0 : 0 < k) : KReads enc W t (fun ds => ∃ l : List α, ds = [D.sl k (l.map f)]) := fun fuel cs x h => by
 obtain ⟨ds, ⟨rows, rfl, hr⟩, ha⟩ := reads_slice ht hr hc h0 fuel cs x h
 obtain ⟨l, rfl⟩ := rows_map (f := f) (rows := rows) hr
 exact ⟨_, ⟨l, rfl⟩, ha⟩
theorem r_bytes : KReads enc W 53 (fun ds => ∃ l : Bs, ds = [bysD l]) := fun fuel cs x h => by
 have hr : KReads enc W 5 (fun ds => ∃ c : UInt8, ds = [.raw (.int .u8 c.toNat)]) := reads_flat (ks := [.int .u8]) V169 fun r h => by
  obtain ⟨a, r, rfl, ⟨n, hn, hw⟩, h⟩ := all2_inv h
  have := all2_nil h
  subst hn this
  have h2 : 0 ≤ n ∧ n ≤ 255 := by
   simp only [Lit.wf, Bool.and_eq_true, decide_eq_true_eq] at hw
   have e1 : IntKind.u8.min = 0 := by decide
   have e2 : IntKind.u8.max = 255 := by decide
   omega
  refine ⟨UInt8.ofNat n.toNat, ?_⟩
  have : ((UInt8.ofNat n.toNat).toNat : Int) = n := by rw [UInt8.toNat_ofNat']; omega
  show [D.raw (.int .u8 n)] = [D.raw (.int .u8 ((UInt8.ofNat n.toNat).toNat : Int))]
  rw [this]
 obtain ⟨ds, ⟨l, rfl⟩, ha⟩ := r_sl (k := 1) (f := fun c : UInt8 => [D.raw (.int .u8 c.toNat)]) V169 hr V169 (by decide) fuel cs x h
 exact ⟨_, ⟨l, rfl⟩, ha⟩
theorem one_read {t : TypeId} {Q : List D → Prop} (hr : KReads enc W t Q) {b0 : Nat} {r : Reach} {e : TypeId} (ht : Tryz.prog.underlying t = some (.slice e)) (hv : Value.okWide Tryz.prog W r b0 t v) (h : DataW.Trod enc Tryz.prog W 0 (fun _ => true) true t v d ps) :
  ∃ x : D, Q [x] ∧ RepV (fun b _ => b < W.heap.size) noVal (look []) W (.leaf (.d x)) v := by
 obtain ⟨fuel, hf⟩ := h
 have hc : ∃ a n c, v = .slice a n c := by
  unfold Value.okWide at hv
  rw [ht] at hv
  simp only [Cell.okWide, ht] at hv
  cases v <;> first | exact ⟨_, _, _, rfl⟩ | (simp [Cell.ok, ht] at hv)
 obtain ⟨a, n, c, rfl⟩ := hc
 have hcs : (Value.slice a n c).cells.toList = [Value.slice a n c] := rfl
 rw [hcs] at hf
 obtain ⟨ds, hq, ha⟩ := hr _ _ _ hf
 match ds, ha with
 | [x], ha => exact ⟨x, hq, _, rfl, ha.1⟩
theorem bytes_read {b0 : Nat} {r : Reach} (hv : Value.okWide Tryz.prog W r b0 53 v) (h : DataW.Trod enc Tryz.prog W 0 (fun _ => true) true 53 v d ps) :
  ∃ l : Bs, l.length ≤ 9223372036854775807 ∧ RepV (fun b _ => b < W.heap.size) noVal (look []) W (.leaf (.d (bysD l))) v := by
 obtain ⟨x, ⟨l, e⟩, hr⟩ := one_read (e := 5) r_bytes V169 hv h
 cases e
 exact ⟨l, by have := sl_len (P := Tryz.prog) (e := 5) V169 hv h hr; rwa [byD_len] at this, hr⟩
theorem str_read {b0 : Nat} {r : Reach} (hv : Value.okWide Tryz.prog W r b0 9 v) (h : DataW.Trod enc Tryz.prog W 0 (fun _ => true) true 9 v d ps) :
  ∃ l : Bs, l.length ≤ 9223372036854775807 ∧ RepV (fun b _ => b < W.heap.size) noVal (look []) W (.str l) v := by
 obtain ⟨s, rfl, _, _, hs⟩ := Go.ChangeMaps.open_string V169 hv h
 refine ⟨s.data.toList, ?_, _, rfl, ?_⟩
 ·have hmx : maxLen = 9223372036854775807 := by decide
  have : s.data.toList.length = s.size := rfl
  rw [this, ← hmx]; exact hs
 ·rw [bs_data]; exact .raw _ rfl
end
end Go.Mw

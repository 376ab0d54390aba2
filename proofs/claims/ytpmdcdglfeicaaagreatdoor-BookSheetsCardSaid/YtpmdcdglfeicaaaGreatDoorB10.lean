/- What the arguments of the statements about books read as, and what the library's tables hold; no condition but those in each. -/
import Derived.Test.YtpmdcdglfeicaaaGreatDoorD1
import Derived.Test.YtpmdcdglfeicaaaGreatDoorB5
import Derived.Test.YtpmdcdglfeicaaaGreatDoorB6
import Derived.Test.YtpmdcdglfeicaaaGreatDoorRows
import Derived.LaidMore
import Derived.Lay
import Derived.ChangeMaps5
import Derived.Test.YtpmdcdglfeicaaaGreatDoorB9
set_option linter.unusedSimpArgs false
set_option linter.unusedVariables false
set_option linter.unusedSectionVars false
set_option linter.deprecated false
namespace Go.Mw
open Go.Proofs Go.RowKit Go.ChangeShapes Go.WideShapes Go.Bk
set_option maxRecDepth 20000

theorem rows_map {α : Type} {f : α → List D} : ∀ {rows : List (List D)}, (∀ r ∈ rows, ∃ x, r = f x) → ∃ l : List α, rows = l.map f
 | [], _ => ⟨[], rfl⟩
 | r :: rows, h => by
  obtain ⟨x, rfl⟩ := h r (by simp)
  obtain ⟨l, rfl⟩ := rows_map (rows := rows) fun q hq => h q (List.mem_cons_of_mem _ hq)
  exact ⟨x :: l, rfl⟩
section
variable {H : Type} {enc : TypeId × Value → H} {W : World} {v : Value} {d : DataW H} {ps : List MemPlace}
abbrev KReads (enc : TypeId × Value → H) (W : World) (t : TypeId) (Q : List D → Prop) : Prop := Reads enc Tryz.prog W 0 (fun _ => true) true t Q
theorem r_int : KReads enc W 3 (fun ds => ∃ n : Int, ds = encInt n) := reads_flat (ks := [.int .i64]) V162 fun r h => by
 obtain ⟨a, r, rfl, ⟨n, hn, _⟩, h⟩ := all2_inv h
 have := all2_nil h
 subst hn this
 exact ⟨n, rfl⟩
theorem r_try : KReads enc W 146 (fun ds => ∃ x : Tr, ds = encTr x) := reads_flat (ks := [.int .i64, .int .i64, .int .i64]) V162 fun r h => by
 obtain ⟨a, r, rfl, ⟨n, hn, _⟩, h⟩ := all2_inv h
 obtain ⟨b, r, rfl, ⟨m, hm, _⟩, h⟩ := all2_inv h
 obtain ⟨c, r, rfl, ⟨k, hk, _⟩, h⟩ := all2_inv h
 have := all2_nil h
 subst hn hm hk this
 exact ⟨⟨n, m, k⟩, rfl⟩
theorem r_sl {t e : TypeId} {k : Nat} {α : Type} {f : α → List D} (ht : Tryz.prog.underlying t = some (.slice e)) (hr : KReads enc W e (fun ds => ∃ x : α, ds = f x)) (hc : Tryz.prog.cellsOf e = k) (h0 : 0 < k) : KReads enc W t (fun ds => ∃ l : List α, ds = [D.sl k (l.map f)]) := fun fuel cs x h => by
 obtain ⟨ds, ⟨rows, rfl, hr⟩, ha⟩ := reads_slice ht hr hc h0 fuel cs x h
 obtain ⟨l, rfl⟩ := rows_map (f := f) (rows := rows) hr
 exact ⟨_, ⟨l, rfl⟩, ha⟩
theorem r_sheet : KReads enc W 68 (fun ds => ∃ x : Sh, ds = encSh x) := fun fuel cs x h => by
 obtain ⟨n, ha⟩ := struct_one (P := Tryz.prog) (t := 68) (ts := [3, 66]) V162 h
 obtain ⟨a, r, rfl, h1, ha⟩ := all2_inv ha
 obtain ⟨b, r, rfl, h2, ha⟩ := all2_inv ha
 have := all2_nil ha
 subst this
 obtain ⟨d1, ⟨x1, e1⟩, q1⟩ := reads_one r_int h1
 obtain ⟨d2, ⟨x2, e2⟩, q2⟩ := reads_one (r_sl (k := 3) V162 r_try V162 (by decide)) h2
 cases e1; cases e2
 exact ⟨_, ⟨⟨x1, x2⟩, rfl⟩, q1, q2, trivial⟩
theorem one_read {t : TypeId} {Q : List D → Prop} (hr : KReads enc W t Q) {b0 : Nat} {r : Reach} {e : TypeId} (ht : Tryz.prog.underlying t = some (.slice e)) (hv : Value.okWide Tryz.prog W r b0 t v) (h : DataW.Trod enc Tryz.prog W 0 (fun _ => true) true t v d ps) :
  ∃ x : D, Q [x] ∧ RepV (fun b _ => b < W.heap.size) noVal (look []) W (.leaf (.d x)) v := by
 obtain ⟨fuel, hf⟩ := h
 have hc : ∃ a n c, v = .slice a n c := by
  unfold Value.okWide at hv
  rw [ht] at hv
  simp only [Cell.okWide, ht] at hv
  cases v <;> first | exact ⟨_, _, _, rfl⟩ | (simp [Cell.ok, ht] at hv)
 obtain ⟨a, n, c, rfl⟩ := hc
 have hcs : (Value.slice a n c).cells.toList = [Value.slice a n c] := rfl
 rw [hcs] at hf
 obtain ⟨ds, hq, ha⟩ := hr _ _ _ hf
 match ds, ha with
 | [x], ha => exact ⟨x, hq, _, rfl, ha.1⟩
theorem sheets_read {b0 : Nat} {r : Reach} (hv : Value.okWide Tryz.prog W r b0 61 v) (h : DataW.Trod enc Tryz.prog W 0 (fun _ => true) true 61 v d ps) :
  ∃ l : List Sh, l.length ≤ 9223372036854775807 ∧ RepV (fun b _ => b < W.heap.size) noVal (look []) W (.leaf (.d (shsD l))) v := by
 obtain ⟨x, ⟨l, e⟩, hr⟩ := one_read (e := 68) (r_sl (k := 2) V162 r_sheet V162 (by decide)) V162 hv h
 cases e
 exact ⟨l, by have := sl_len (P := Tryz.prog) (e := 68) V162 hv h hr; rwa [List.length_map] at this, hr⟩
theorem str_read {b0 : Nat} {r : Reach} (hv : Value.okWide Tryz.prog W r b0 9 v) (h : DataW.Trod enc Tryz.prog W 0 (fun _ => true) true 9 v d ps) :
  ∃ l : Bs, l.length ≤ 9223372036854775807 ∧ RepV (fun b _ => b < W.heap.size) noVal (look []) W (.str l) v := by
 obtain ⟨s, rfl, _, _, hs⟩ := Go.ChangeMaps.open_string V162 hv h
 refine ⟨s.data.toList, ?_, _, rfl, ?_⟩
 ·have hmx : maxLen = 9223372036854775807 := by decide
  have : s.data.toList.length = s.size := rfl
  rw [this, ← hmx]; exact hs
 ·rw [bs_data]; exact .raw _ rfl
end
end Go.Mw

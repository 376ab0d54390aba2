/- The statements about the card. -/
import Derived.Test.YtfmdonllhchdpaaB10
import Derived.Test.YtfmdonllhchdpaaB3
import Derived.Test.YtfmdonllhchdpaaB4
set_option linter.unusedSimpArgs false
set_option linter.unusedVariables false
set_option linter.unusedSectionVars false
set_option linter.deprecated false
namespace Go.Mw
open Go.Proofs
theorem great_no {w : Walk} {n : Int} (h : greatB w n = false) : (w.rates.length ≤ 14 ∧ w.readings.length ≤ 32) ∧ ((w.readings.length : Int) ≤ n ∨ 24 < w.readings.length) := by
  unfold greatB at h
  simp only [Bool.or_eq_false_iff, Bool.and_eq_false_iff, decide_eq_false_iff_not] at h
  omega
theorem h20_great {w : Walk} {n : Int} (h : greatB w n = false) (hn : n ≤ 30) : walkB w = true → ∀ h, (ofS w h).length ≤ 39 := fun hw => by
  have h1 := great_no h
  have h2 := walk_len hw
  exact h20_of (by omega)
end Go.Mw
namespace Go.Mw
open Go.Proofs
set_option maxRecDepth 20000 in
set_option maxHeartbeats 8000000 in
/-- meterworks/meterworkslaw12.CardMisfits -/
theorem c_law_CardMisfits (w : Walk) (house day : Int) : Contract Try.prog 3 [walkV w, .int house, .int day] (.bool true) [] := by
  refine con_of follows_mixed Try.func3 rfl (by simp only [List.length_cons, List.length_nil, Try.ntmps3]; omega) (by kernel_rfl) rfl ?_
  refine Exec.reg ?_
  iterate 2 (refine Run.op (by simp only [go_sem] <;> rfl) (by simp only [go_sem] <;> rfl) ?_)
  refine Run.nil ?_
  refine Exec.assocS ?_
  refine Exec.reg ?_
  refine Run.op (by simp only [go_sem] <;> rfl) (by simp only [go_sem] <;> rfl) ?_
  refine Run.cal (c_law_great w 24) (by simp only [go_sem]) (by simp only [go_sem] <;> rfl) (by exact ⟨by first | exact WkR.pure rfl | exact WkR.nil _ | exact WkR.int (by first | omega | (simp; done) | (simp; omega)), by first | exact WkR.pure rfl | exact WkR.nil _ | exact WkR.int (by first | omega | (simp; done) | (simp; omega)), trivial⟩) (fr0) (by simp only [go_sem] <;> rfl) ?_
  refine Run.nil ?_
  refine Exec.cndS (by simp only [go_sem] <;> rfl) (fun hb18 => ?_) (fun hb18 => ?_)
  · skip
    refine Exec.assocS ?_
    refine Exec.reg ?_
    refine Run.cal (c_law_alive) (by simp only [go_sem]) (by simp only [go_sem] <;> rfl) (by exact trivial) (fr0) (by simp only [go_sem] <;> rfl) ?_
    refine Run.op (by simp only [go_sem] <;> rfl) (by simp only [go_sem] <;> rfl) ?_
    refine Run.nil ?_
    refine Exec.retS ?_
    exact Ends.fin [] (rs := [.tmp 6]) rfl (by simp only [go_sem] <;> rfl) (by simp only [go_sem] <;> first | rfl | ((repeat' (first | with_reducible_and_instances rfl | refine st_eq ?_ ?_ ?_ | refine ret_eq ?_ | refine tup_eq ?_ | refine tm_eq ?_ ?_ | refine arr_eq ?_ | refine cells_eq ?_ | refine val_eq ?_ | refine ls_eq ?_ ?_ | refine own_eq ?_ ?_ | refine sl_eq ?_ | refine b_eq ?_ | (refine i_eq ?_; omega))); done))
  · skip
    have hg := great_no hb18
    have h1 : w.rates.length ≤ 1000 := by omega
    have h2 : w.readings.length ≤ 1000 := by omega
    have h20 := h20_great hb18 (by omega)
    refine Exec.skipS ?_
    refine Exec.reg ?_
    refine Run.op (by simp only [go_sem, decide_true, beq_self_eq_true, Bool.and_self] <;> rfl) (by simp only [go_sem] <;> rfl) ?_
    refine Run.cal (c_card_Misfit w h1 h2 h20) (by simp only [go_sem]) (by simp only [go_sem, decide_true, beq_self_eq_true, Bool.and_self] <;> rfl) (by exact ⟨by first | exact WkR.pure rfl | exact WkR.nil _ | exact WkR.int (by first | omega | (simp; done) | (simp; omega)), trivial⟩) (fr0) (by simp only [go_sem, decide_true, beq_self_eq_true, Bool.and_self] <;> rfl) ?_
    iterate 7 (refine Run.op (by simp only [go_sem, decide_true, beq_self_eq_true, Bool.and_self] <;> rfl) (by simp only [go_sem] <;> rfl) ?_)
    refine Run.nil ?_
    refine Exec.reg ?_
    refine Run.op (by simp only [go_sem, decide_true, beq_self_eq_true, Bool.and_self] <;> rfl) (by simp only [go_sem] <;> rfl) ?_
    refine Run.cal (c_meterworksref12_Misfit w h1 h2) (by simp only [go_sem]) (by simp only [go_sem, decide_true, beq_self_eq_true, Bool.and_self] <;> rfl) (by exact ⟨by first | exact WkR.pure rfl | exact WkR.nil _ | exact WkR.int (by first | omega | (simp; done) | (simp; omega)), trivial⟩) (fr0) (by simp only [go_sem, decide_true, beq_self_eq_true, Bool.and_self] <;> rfl) ?_
    iterate 7 (refine Run.op (by simp only [go_sem, decide_true, beq_self_eq_true, Bool.and_self] <;> rfl) (by simp only [go_sem] <;> rfl) ?_)
    refine Run.nil ?_
    refine Exec.reg ?_
    iterate 3 (refine Run.op (by simp only [go_sem, decide_true, beq_self_eq_true, Bool.and_self] <;> rfl) (by simp only [go_sem] <;> rfl) ?_)
    refine Run.cal (c_card_Shows w house day h1 h2 h20) (by simp only [go_sem]) (by simp only [go_sem, decide_true, beq_self_eq_true, Bool.and_self] <;> rfl) (by exact ⟨by first | exact WkR.pure rfl | exact WkR.nil _ | exact WkR.int (by first | omega | (simp; done) | (simp; omega)), by first | exact WkR.pure rfl | exact WkR.nil _ | exact WkR.int (by first | omega | (simp; done) | (simp; omega)), by first | exact WkR.pure rfl | exact WkR.nil _ | exact WkR.int (by first | omega | (simp; done) | (simp; omega)), trivial⟩) (fr0) (by simp only [go_sem, decide_true, beq_self_eq_true, Bool.and_self] <;> rfl) ?_
    iterate 6 (refine Run.op (by simp only [go_sem, decide_true, beq_self_eq_true, Bool.and_self] <;> rfl) (by simp only [go_sem] <;> rfl) ?_)
    refine Run.nil ?_
    refine Exec.reg ?_
    iterate 3 (refine Run.op (by simp only [go_sem, decide_true, beq_self_eq_true, Bool.and_self] <;> rfl) (by simp only [go_sem] <;> rfl) ?_)
    refine Run.cal (c_meterworksref12_Shows w house day h1 h2) (by simp only [go_sem]) (by simp only [go_sem, decide_true, beq_self_eq_true, Bool.and_self] <;> rfl) (by exact ⟨by first | exact WkR.pure rfl | exact WkR.nil _ | exact WkR.int (by first | omega | (simp; done) | (simp; omega)), by first | exact WkR.pure rfl | exact WkR.nil _ | exact WkR.int (by first | omega | (simp; done) | (simp; omega)), by first | exact WkR.pure rfl | exact WkR.nil _ | exact WkR.int (by first | omega | (simp; done) | (simp; omega)), trivial⟩) (fr0) (by simp only [go_sem, decide_true, beq_self_eq_true, Bool.and_self] <;> rfl) ?_
    iterate 6 (refine Run.op (by simp only [go_sem, decide_true, beq_self_eq_true, Bool.and_self] <;> rfl) (by simp only [go_sem] <;> rfl) ?_)
    refine Run.nil ?_
    refine Exec.reg ?_
    iterate 4 (refine Run.op (by simp only [go_sem, decide_true, beq_self_eq_true, Bool.and_self] <;> rfl) (by simp only [go_sem] <;> rfl) ?_)
    refine Run.yes (by simp only [go_sem] <;> rfl) (by simp only [go_sem, decide_true, beq_self_eq_true, Bool.and_self] <;> rfl) (by simp only [go_sem] <;> rfl) ?_
    refine Run.yes (by simp only [go_sem] <;> rfl) (by simp only [go_sem, decide_true, beq_self_eq_true, Bool.and_self] <;> rfl) (by simp only [go_sem] <;> rfl) ?_
    refine Run.yes (by simp only [go_sem] <;> rfl) (by simp only [go_sem, decide_true, beq_self_eq_true, Bool.and_self] <;> rfl) (by simp only [go_sem] <;> rfl) ?_
    iterate 2 (refine Run.op (by simp only [go_sem, decide_true, beq_self_eq_true, Bool.and_self] <;> rfl) (by simp only [go_sem] <;> rfl) ?_)
    refine Run.yes (by simp only [go_sem] <;> rfl) (by simp only [go_sem, decide_true, beq_self_eq_true, Bool.and_self] <;> rfl) (by simp only [go_sem] <;> rfl) ?_
    refine Run.yes (by simp only [go_sem] <;> rfl) (by simp only [go_sem, decide_true, beq_self_eq_true, Bool.and_self] <;> rfl) (by simp only [go_sem] <;> rfl) ?_
    refine Run.yes (by simp only [go_sem] <;> rfl) (by simp only [go_sem, decide_true, beq_self_eq_true, Bool.and_self] <;> rfl) (by simp only [go_sem] <;> rfl) ?_
    iterate 2 (refine Run.op (by simp only [go_sem, decide_true, beq_self_eq_true, Bool.and_self] <;> rfl) (by simp only [go_sem] <;> rfl) ?_)
    refine Run.yes (by simp only [go_sem] <;> rfl) (by simp only [go_sem, decide_true, beq_self_eq_true, Bool.and_self] <;> rfl) (by simp only [go_sem] <;> rfl) ?_
    refine Run.yes (by simp only [go_sem] <;> rfl) (by simp only [go_sem, decide_true, beq_self_eq_true, Bool.and_self] <;> rfl) (by simp only [go_sem] <;> rfl) ?_
    refine Run.yes (by simp only [go_sem] <;> rfl) (by simp only [go_sem, decide_true, beq_self_eq_true, Bool.and_self] <;> rfl) (by simp only [go_sem] <;> rfl) ?_
    iterate 2 (refine Run.op (by simp only [go_sem, decide_true, beq_self_eq_true, Bool.and_self] <;> rfl) (by simp only [go_sem] <;> rfl) ?_)
    refine Run.yes (by simp only [go_sem] <;> rfl) (by simp only [go_sem, decide_true, beq_self_eq_true, Bool.and_self] <;> rfl) (by simp only [go_sem] <;> rfl) ?_
    refine Run.yes (by simp only [go_sem] <;> rfl) (by simp only [go_sem, decide_true, beq_self_eq_true, Bool.and_self] <;> rfl) (by simp only [go_sem] <;> rfl) ?_
    refine Run.yes (by simp only [go_sem] <;> rfl) (by simp only [go_sem, decide_true, beq_self_eq_true, Bool.and_self] <;> rfl) (by simp only [go_sem] <;> rfl) ?_
    iterate 2 (refine Run.op (by simp only [go_sem, decide_true, beq_self_eq_true, Bool.and_self] <;> rfl) (by simp only [go_sem] <;> rfl) ?_)
    refine Run.calw (by simp only [go_sem] <;> rfl) (c_law_alive) (by simp only [go_sem]) (by simp only [go_sem, decide_true, beq_self_eq_true, Bool.and_self] <;> rfl) (by simp only [go_sem, decide_true, beq_self_eq_true, Bool.and_self] <;> rfl) (by exact trivial) (fr0) (by simp only [go_sem, decide_true, beq_self_eq_true, Bool.and_self] <;> rfl) ?_
    iterate 2 (refine Run.op (by simp only [go_sem, decide_true, beq_self_eq_true, Bool.and_self] <;> rfl) (by simp only [go_sem] <;> rfl) ?_)
    refine Run.nil ?_
    exact Ends.fin [] (rs := [.tmp 6]) rfl (by simp only [go_sem, decide_true, beq_self_eq_true, Bool.and_self] <;> rfl) (by simp only [go_sem, decide_true, beq_self_eq_true, Bool.and_self] <;> first | rfl | ((repeat' (first | with_reducible_and_instances rfl | refine st_eq ?_ ?_ ?_ | refine ret_eq ?_ | refine tup_eq ?_ | refine tm_eq ?_ ?_ | refine arr_eq ?_ | refine cells_eq ?_ | refine val_eq ?_ | refine ls_eq ?_ ?_ | refine own_eq ?_ ?_ | refine sl_eq ?_ | refine b_eq ?_ | (refine i_eq ?_; omega))); done))

end Go.Mw
namespace Go.Mw
open Go.RowKit Go.ChangeShapes Go.WideShapes

section
variable {H : Type} {enc : TypeId × Value → H} {P : Program} {w : World} {base : Nat} {spare : Nat → Bool} {held : Bool} {v : Value} {d : DataW H} {ps : List MemPlace} {t : TypeId}
theorem int_read {k : IntKind} {b0 : Nat} {r : Reach} (ht : P.underlying t = some (.int k)) (hv : Value.okWide P w r b0 t v) (h : DataW.Trod enc P w base spare held t v d ps) :
    ∃ n : Int, (Lit.int k n).wf = true ∧ RepV (fun b _ => b < w.heap.size) noVal (look []) w (.leaf (.d (.raw (.int k n)))) v := by
  obtain ⟨n, rfl, _, _, hw⟩ := open_int ht hv h
  exact ⟨n, hw, _, rfl, .raw _ rfl⟩
end
end Go.Mw
namespace Go.Mw
open Go.Proofs Go.RowKit Go.ChangeShapes Go.WideShapes

@[go_sem] def encU16 (n : Nat) : List D := [.raw (.int .u16 (n : Int))]
section
variable {H : Type} {enc : TypeId × Value → H} {W : World} {v : Value} {d : DataW H} {ps : List MemPlace}
end
end Go.Mw

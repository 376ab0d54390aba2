/- The statements about the card. -/
import Derived.Test.YtfmdonllhchdpaaB9
set_option linter.unusedSimpArgs false
set_option linter.unusedVariables false
set_option linter.unusedSectionVars false
set_option linter.deprecated false
namespace Go.Mw
open Go.Proofs
theorem great_no {w : Walk} {n : Int} (h : greatB w n = false) : (w.rates.length ≤ 14 ∧ w.readings.length ≤ 32) ∧ ((w.readings.length : Int) ≤ n ∨ 24 < w.readings.length) := by
  unfold greatB at h
  simp only [Bool.or_eq_false_iff, Bool.and_eq_false_iff, decide_eq_false_iff_not] at h
  omega
theorem h20_great {w : Walk} {n : Int} (h : greatB w n = false) (hn : n ≤ 20) : walkB w = true → ∀ h, (ofS w h).length ≤ 20 := fun hw => by
  have h1 := great_no h
  have h2 := walk_len hw
  exact h20_of (by omega)
theorem len_all {w : Walk} (hw : walkB w = true) : (allS w).length ≤ 1000 := by
  have hn := (walk_len hw).2.2
  have b1 := len_swN hn w.readings.length
  have b2 := len_cpN w w.readings.length
  have b3 := len_ltN w w.readings.length
  unfold allS
  rw [List.length_append, List.length_append]
  omega
theorem len_expl (w : Walk) : (explainR w).1.length ≤ 1000 := by
  unfold explainR
  split
  · rename_i hw
    split
    · simp
    · split
      · simp
      · exact len_all hw
  · simp
theorem len_mend {w : Walk} (h : w.readings.length ≤ 1000) : (mendR w).1.length ≤ 1000 := by
  unfold mendR
  split
  · rename_i he
    obtain ⟨hw, hl, _⟩ := expl_zero he
    split
    · simp
    · rename_i x hx
      rw [hl] at hx
      obtain ⟨m, hm, _⟩ := all_made (x := x) (by rw [hx]; simp)
      have := (made_ok hw hm).2.2
      simp only [hm, Option.getD_some]
      omega
    · simp
  · simp
set_option maxRecDepth 20000 in
set_option maxHeartbeats 4000000 in
/-- meterworks/meterworkslaw12.CardExplains -/
theorem c_law_CardExplains (w : Walk) : Contract Try.prog 4 [walkV w] (.bool true) [] := by
  refine con_of follows_mixed Try.func4 rfl (by simp only [List.length_cons, List.length_nil, Try.ntmps4]; omega) (by kernel_rfl) rfl ?_
  refine Exec.reg ?_
  iterate 2 (refine Run.op (by simp only [go_sem] <;> rfl) (by simp only [go_sem] <;> rfl) ?_)
  refine Run.nil ?_
  refine Exec.assocS ?_
  refine Exec.reg ?_
  refine Run.op (by simp only [go_sem] <;> rfl) (by simp only [go_sem] <;> rfl) ?_
  refine Run.cal (c_law_great w 10) (by simp only [go_sem]) (by simp only [go_sem] <;> rfl) (by exact ⟨by first | exact WkR.pure rfl | exact WkR.nil _ | exact WkR.int (by first | omega | (simp; done) | (simp; omega)), by first | exact WkR.pure rfl | exact WkR.nil _ | exact WkR.int (by first | omega | (simp; done) | (simp; omega)), trivial⟩) (fr0) (by simp only [go_sem] <;> rfl) ?_
  refine Run.nil ?_
  refine Exec.cndS (by simp only [go_sem] <;> rfl) (fun hb12 => ?_) (fun hb12 => ?_)
  · skip
    refine Exec.assocS ?_
    refine Exec.reg ?_
    refine Run.cal (c_law_alive) (by simp only [go_sem]) (by simp only [go_sem] <;> rfl) (by exact trivial) (fr0) (by simp only [go_sem] <;> rfl) ?_
    refine Run.op (by simp only [go_sem] <;> rfl) (by simp only [go_sem] <;> rfl) ?_
    refine Run.nil ?_
    refine Exec.retS ?_
    exact Ends.fin [] (rs := [.tmp 2]) rfl (by simp only [go_sem] <;> rfl) (by simp only [go_sem] <;> first | rfl | ((repeat' (first | with_reducible_and_instances rfl | refine st_eq ?_ ?_ ?_ | refine ret_eq ?_ | refine tup_eq ?_ | refine tm_eq ?_ ?_ | refine arr_eq ?_ | refine cells_eq ?_ | refine val_eq ?_ | refine ls_eq ?_ ?_ | refine own_eq ?_ ?_ | refine sl_eq ?_ | refine b_eq ?_ | (refine i_eq ?_; omega))); done))
  · skip
    have hg := great_no hb12
    have h1 : w.rates.length ≤ 1000 := by omega
    have h2 : w.readings.length ≤ 1000 := by omega
    have h20 := h20_great hb12 (by omega)
    refine Exec.skipS ?_
    refine Exec.reg ?_
    refine Run.op (by simp only [go_sem, decide_true, beq_self_eq_true] <;> rfl) (by simp only [go_sem] <;> rfl) ?_
    refine Run.cal (c_card_Explain w h1 h2 h20) (by simp only [go_sem]) (by simp only [go_sem, decide_true, beq_self_eq_true] <;> rfl) (by exact ⟨by first | exact WkR.pure rfl | exact WkR.nil _ | exact WkR.int (by first | omega | (simp; done) | (simp; omega)), trivial⟩) (fr0) (by simp only [go_sem, decide_true, beq_self_eq_true] <;> rfl) ?_
    iterate 5 (refine Run.op (by simp only [go_sem, decide_true, beq_self_eq_true] <;> rfl) (by simp only [go_sem] <;> rfl) ?_)
    refine Run.nil ?_
    refine Exec.reg ?_
    refine Run.op (by simp only [go_sem, decide_true, beq_self_eq_true] <;> rfl) (by simp only [go_sem] <;> rfl) ?_
    refine Run.cal (c_meterworksref12_Explain w h1 h2) (by simp only [go_sem]) (by simp only [go_sem, decide_true, beq_self_eq_true] <;> rfl) (by exact ⟨by first | exact WkR.pure rfl | exact WkR.nil _ | exact WkR.int (by first | omega | (simp; done) | (simp; omega)), trivial⟩) (fr0) (by simp only [go_sem, decide_true, beq_self_eq_true] <;> rfl) ?_
    iterate 5 (refine Run.op (by simp only [go_sem, decide_true, beq_self_eq_true] <;> rfl) (by simp only [go_sem] <;> rfl) ?_)
    refine Run.nil ?_
    refine Exec.reg ?_
    refine Run.op (by simp only [go_sem, decide_true, beq_self_eq_true] <;> rfl) (by simp only [go_sem] <;> rfl) ?_
    refine Run.cal (c_card_Mend w h1 h2 h20) (by simp only [go_sem]) (by simp only [go_sem, decide_true, beq_self_eq_true] <;> rfl) (by exact ⟨by first | exact WkR.pure rfl | exact WkR.nil _ | exact WkR.int (by first | omega | (simp; done) | (simp; omega)), trivial⟩) (fr0) (by simp only [go_sem, decide_true, beq_self_eq_true] <;> rfl) ?_
    iterate 5 (refine Run.op (by simp only [go_sem, decide_true, beq_self_eq_true] <;> rfl) (by simp only [go_sem] <;> rfl) ?_)
    refine Run.nil ?_
    refine Exec.reg ?_
    refine Run.op (by simp only [go_sem, decide_true, beq_self_eq_true] <;> rfl) (by simp only [go_sem] <;> rfl) ?_
    refine Run.cal (c_meterworksref12_Mend w h1 h2) (by simp only [go_sem]) (by simp only [go_sem, decide_true, beq_self_eq_true] <;> rfl) (by exact ⟨by first | exact WkR.pure rfl | exact WkR.nil _ | exact WkR.int (by first | omega | (simp; done) | (simp; omega)), trivial⟩) (fr0) (by simp only [go_sem, decide_true, beq_self_eq_true] <;> rfl) ?_
    iterate 5 (refine Run.op (by simp only [go_sem, decide_true, beq_self_eq_true] <;> rfl) (by simp only [go_sem] <;> rfl) ?_)
    refine Run.nil ?_
    refine Exec.reg ?_
    iterate 2 (refine Run.op (by simp only [go_sem, decide_true, beq_self_eq_true] <;> rfl) (by simp only [go_sem] <;> rfl) ?_)
    refine Run.cal (c_meterworksref12_Repairs _ _ (len_expl w) (len_expl w)) (by simp only [go_sem]) (by simp only [go_sem, decide_true, beq_self_eq_true] <;> rfl) (by exact ⟨by first | exact WkR.pure rfl | exact WkR.nil _ | exact WkR.int (by first | omega | (simp; done) | (simp; omega)), by first | exact WkR.pure rfl | exact WkR.nil _ | exact WkR.int (by first | omega | (simp; done) | (simp; omega)), trivial⟩) (fr0) (by simp only [go_sem, decide_true, beq_self_eq_true] <;> rfl) ?_
    refine Run.op (by simp only [go_sem, decide_true, beq_self_eq_true] <;> rfl) (by simp only [go_sem] <;> rfl) ?_
    refine Run.yes (by simp only [go_sem] <;> rfl) (by simp only [go_sem, decide_true, beq_self_eq_true] <;> rfl) (by simp only [go_sem] <;> rfl) ?_
    refine Run.yes (by simp only [go_sem] <;> rfl) (by simp only [go_sem, decide_true, beq_self_eq_true] <;> rfl) (by simp only [go_sem] <;> rfl) ?_
    refine Run.yes (by simp only [go_sem] <;> rfl) (by simp only [go_sem, decide_true, beq_self_eq_true] <;> rfl) (by simp only [go_sem] <;> rfl) ?_
    iterate 2 (refine Run.op (by simp only [go_sem, decide_true, beq_self_eq_true] <;> rfl) (by simp only [go_sem] <;> rfl) ?_)
    refine Run.yes (by simp only [go_sem] <;> rfl) (by simp only [go_sem, decide_true, beq_self_eq_true] <;> rfl) (by simp only [go_sem] <;> rfl) ?_
    refine Run.yes (by simp only [go_sem] <;> rfl) (by simp only [go_sem, decide_true, beq_self_eq_true] <;> rfl) (by simp only [go_sem] <;> rfl) ?_
    refine Run.calw (by simp only [go_sem] <;> rfl) (c_meterworksref12_Readings _ _ (len_mend h2) (len_mend h2)) (by simp only [go_sem]) (by simp only [go_sem, decide_true, beq_self_eq_true] <;> rfl) (by simp only [go_sem, decide_true, beq_self_eq_true] <;> rfl) (by exact ⟨by first | exact WkR.pure rfl | exact WkR.nil _ | exact WkR.int (by first | omega | (simp; done) | (simp; omega)), by first | exact WkR.pure rfl | exact WkR.nil _ | exact WkR.int (by first | omega | (simp; done) | (simp; omega)), trivial⟩) (fr0) (by simp only [go_sem, decide_true, beq_self_eq_true] <;> rfl) ?_
    iterate 2 (refine Run.op (by simp only [go_sem, decide_true, beq_self_eq_true] <;> rfl) (by simp only [go_sem] <;> rfl) ?_)
    refine Run.yes (by simp only [go_sem] <;> rfl) (by simp only [go_sem, decide_true, beq_self_eq_true] <;> rfl) (by simp only [go_sem] <;> rfl) ?_
    refine Run.yes (by simp only [go_sem] <;> rfl) (by simp only [go_sem, decide_true, beq_self_eq_true] <;> rfl) (by simp only [go_sem] <;> rfl) ?_
    refine Run.yes (by simp only [go_sem] <;> rfl) (by simp only [go_sem, decide_true, beq_self_eq_true] <;> rfl) (by simp only [go_sem] <;> rfl) ?_
    iterate 2 (refine Run.op (by simp only [go_sem, decide_true, beq_self_eq_true] <;> rfl) (by simp only [go_sem] <;> rfl) ?_)
    refine Run.calw (by simp only [go_sem] <;> rfl) (c_law_alive) (by simp only [go_sem]) (by simp only [go_sem, decide_true, beq_self_eq_true] <;> rfl) (by simp only [go_sem, decide_true, beq_self_eq_true] <;> rfl) (by exact trivial) (fr0) (by simp only [go_sem, decide_true, beq_self_eq_true] <;> rfl) ?_
    iterate 2 (refine Run.op (by simp only [go_sem, decide_true, beq_self_eq_true] <;> rfl) (by simp only [go_sem] <;> rfl) ?_)
    refine Run.nil ?_
    exact Ends.fin [] (rs := [.tmp 2]) rfl (by simp only [go_sem, decide_true, beq_self_eq_true] <;> rfl) (by simp only [go_sem, decide_true, beq_self_eq_true] <;> first | rfl | ((repeat' (first | with_reducible_and_instances rfl | refine st_eq ?_ ?_ ?_ | refine ret_eq ?_ | refine tup_eq ?_ | refine tm_eq ?_ ?_ | refine arr_eq ?_ | refine cells_eq ?_ | refine val_eq ?_ | refine ls_eq ?_ ?_ | refine own_eq ?_ ?_ | refine sl_eq ?_ | refine b_eq ?_ | (refine i_eq ?_; omega))); done))

end Go.Mw

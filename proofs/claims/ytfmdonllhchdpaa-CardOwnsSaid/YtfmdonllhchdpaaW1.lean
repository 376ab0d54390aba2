/- The statements about the card. -/
import Derived.Test.YtfmdonllhchdpaaB9
import Derived.Test.YtfmdonllhchdpaaB3
import Derived.Test.YtfmdonllhchdpaaB4
set_option linter.unusedSimpArgs false
set_option linter.unusedVariables false
set_option linter.unusedSectionVars false
set_option linter.deprecated false
namespace Go.Mw
open Go.Proofs
theorem great_no {w : Walk} {n : Int} (h : greatB w n = false) : (w.rates.length ≤ 14 ∧ w.readings.length ≤ 32) ∧ ((w.readings.length : Int) ≤ n ∨ 24 < w.readings.length) := by
  unfold greatB at h
  simp only [Bool.or_eq_false_iff, Bool.and_eq_false_iff, decide_eq_false_iff_not] at h
  omega
theorem h20_great {w : Walk} {n : Int} (h : greatB w n = false) (hn : n ≤ 20) : walkB w = true → ∀ h, (ofS w h).length ≤ 20 := fun hw => by
  have h1 := great_no h
  have h2 := walk_len hw
  exact h20_of (by omega)
theorem len_all {w : Walk} (hw : walkB w = true) : (allS w).length ≤ 1000 := by
  have hn := (walk_len hw).2.2
  have b1 := len_swN hn w.readings.length
  have b2 := len_cpN w w.readings.length
  have b3 := len_ltN w w.readings.length
  unfold allS
  rw [List.length_append, List.length_append]
  omega
theorem len_expl (w : Walk) : (explainR w).1.length ≤ 1000 := by
  unfold explainR
  split
  · rename_i hw
    split
    · simp
    · split
      · simp
      · exact len_all hw
  · simp
theorem len_mend {w : Walk} (h : w.readings.length ≤ 1000) : (mendR w).1.length ≤ 1000 := by
  unfold mendR
  split
  · rename_i he
    obtain ⟨hw, hl, _⟩ := expl_zero he
    split
    · simp
    · rename_i x hx
      rw [hl] at hx
      obtain ⟨m, hm, _⟩ := all_made (x := x) (by rw [hx]; simp)
      have := (made_ok hw hm).2.2
      simp only [hm, Option.getD_some]
      omega
    · simp
  · simp
set_option maxRecDepth 20000 in
set_option maxHeartbeats 4000000 in
/-- meterworks/meterworkslaw12.CardExplains -/
theorem c_law_CardExplains (w : Walk) : Contract Try.prog 4 [walkV w] (.bool true) [] := by
  refine con_of follows_mixed Try.func4 rfl (by simp only [List.length_cons, List.length_nil, Try.ntmps4]; omega) (by kernel_rfl) rfl ?_
  refine Exec.reg ?_
  iterate 2 (refine Run.op (by simp only [go_sem] <;> rfl) (by simp only [go_sem] <;> rfl) ?_)
  refine Run.nil ?_
  refine Exec.assocS ?_
  refine Exec.reg ?_
  refine Run.op (by simp only [go_sem] <;> rfl) (by simp only [go_sem] <;> rfl) ?_
  refine Run.cal (c_law_great w 10) (by simp only [go_sem]) (by simp only [go_sem] <;> rfl) (by exact ⟨by first | exact WkR.pure rfl | exact WkR.nil _ | exact WkR.int (by first | omega | (simp; done) | (simp; omega)), by first | exact WkR.pure rfl | exact WkR.nil _ | exact WkR.int (by first | omega | (simp; done) | (simp; omega)), trivial⟩) (fr0) (by simp only [go_sem] <;> rfl) ?_
  refine Run.nil ?_
  refine Exec.cndS (by simp only [go_sem] <;> rfl) (fun hb12 => ?_) (fun hb12 => ?_)
  · skip
    refine Exec.assocS ?_
    refine Exec.reg ?_
    refine Run.cal (c_law_alive) (by simp only [go_sem]) (by simp only [go_sem] <;> rfl) (by exact trivial) (fr0) (by simp only [go_sem] <;> rfl) ?_
    refine Run.op (by simp only [go_sem] <;> rfl) (by simp only [go_sem] <;> rfl) ?_
    refine Run.nil ?_
    refine Exec.retS ?_
    exact Ends.fin [] (rs := [.tmp 2]) rfl (by simp only [go_sem] <;> rfl) (by simp only [go_sem] <;> first | rfl | ((repeat' (first | with_reducible_and_instances rfl | refine st_eq ?_ ?_ ?_ | refine ret_eq ?_ | refine tup_eq ?_ | refine tm_eq ?_ ?_ | refine arr_eq ?_ | refine cells_eq ?_ | refine val_eq ?_ | refine ls_eq ?_ ?_ | refine own_eq ?_ ?_ | refine sl_eq ?_ | refine b_eq ?_ | (refine i_eq ?_; omega))); done))
  · skip
    have hg := great_no hb12
    have h1 : w.rates.length ≤ 1000 := by omega
    have h2 : w.readings.length ≤ 1000 := by omega
    have h20 := h20_great hb12 (by omega)
    refine Exec.skipS ?_
    refine Exec.reg ?_
    refine Run.op (by simp only [go_sem, decide_true, beq_self_eq_true] <;> rfl) (by simp only [go_sem] <;> rfl) ?_
    refine Run.cal (c_card_Explain w h1 h2 h20) (by simp only [go_sem]) (by simp only [go_sem, decide_true, beq_self_eq_true] <;> rfl) (by exact ⟨by first | exact WkR.pure rfl | exact WkR.nil _ | exact WkR.int (by first | omega | (simp; done) | (simp; omega)), trivial⟩) (fr0) (by simp only [go_sem, decide_true, beq_self_eq_true] <;> rfl) ?_
    iterate 5 (refine Run.op (by simp only [go_sem, decide_true, beq_self_eq_true] <;> rfl) (by simp only [go_sem] <;> rfl) ?_)
    refine Run.nil ?_
    refine Exec.reg ?_
    refine Run.op (by simp only [go_sem, decide_true, beq_self_eq_true] <;> rfl) (by simp only [go_sem] <;> rfl) ?_
    refine Run.cal (c_meterworksref12_Explain w h1 h2) (by simp only [go_sem]) (by simp only [go_sem, decide_true, beq_self_eq_true] <;> rfl) (by exact ⟨by first | exact WkR.pure rfl | exact WkR.nil _ | exact WkR.int (by first | omega | (simp; done) | (simp; omega)), trivial⟩) (fr0) (by simp only [go_sem, decide_true, beq_self_eq_true] <;> rfl) ?_
    iterate 5 (refine Run.op (by simp only [go_sem, decide_true, beq_self_eq_true] <;> rfl) (by simp only [go_sem] <;> rfl) ?_)
    refine Run.nil ?_
    refine Exec.reg ?_
    refine Run.op (by simp only [go_sem, decide_true, beq_self_eq_true] <;> rfl) (by simp only [go_sem] <;> rfl) ?_
    refine Run.cal (c_card_Mend w h1 h2 h20) (by simp only [go_sem]) (by simp only [go_sem, decide_true, beq_self_eq_true] <;> rfl) (by exact ⟨by first | exact WkR.pure rfl | exact WkR.nil _ | exact WkR.int (by first | omega | (simp; done) | (simp; omega)), trivial⟩) (fr0) (by simp only [go_sem, decide_true, beq_self_eq_true] <;> rfl) ?_
    iterate 5 (refine Run.op (by simp only [go_sem, decide_true, beq_self_eq_true] <;> rfl) (by simp only [go_sem] <;> rfl) ?_)
    refine Run.nil ?_
    refine Exec.reg ?_
    refine Run.op (by simp only [go_sem, decide_true, beq_self_eq_true] <;> rfl) (by simp only [go_sem] <;> rfl) ?_
    refine Run.cal (c_meterworksref12_Mend w h1 h2) (by simp only [go_sem]) (by simp only [go_sem, decide_true, beq_self_eq_true] <;> rfl) (by exact ⟨by first | exact WkR.pure rfl | exact WkR.nil _ | exact WkR.int (by first | omega | (simp; done) | (simp; omega)), trivial⟩) (fr0) (by simp only [go_sem, decide_true, beq_self_eq_true] <;> rfl) ?_
    iterate 5 (refine Run.op (by simp only [go_sem, decide_true, beq_self_eq_true] <;> rfl) (by simp only [go_sem] <;> rfl) ?_)
    refine Run.nil ?_
    refine Exec.reg ?_
    iterate 2 (refine Run.op (by simp only [go_sem, decide_true, beq_self_eq_true] <;> rfl) (by simp only [go_sem] <;> rfl) ?_)
    refine Run.cal (c_meterworksref12_Repairs _ _ (len_expl w) (len_expl w)) (by simp only [go_sem]) (by simp only [go_sem, decide_true, beq_self_eq_true] <;> rfl) (by exact ⟨by first | exact WkR.pure rfl | exact WkR.nil _ | exact WkR.int (by first | omega | (simp; done) | (simp; omega)), by first | exact WkR.pure rfl | exact WkR.nil _ | exact WkR.int (by first | omega | (simp; done) | (simp; omega)), trivial⟩) (fr0) (by simp only [go_sem, decide_true, beq_self_eq_true] <;> rfl) ?_
    refine Run.op (by simp only [go_sem, decide_true, beq_self_eq_true] <;> rfl) (by simp only [go_sem] <;> rfl) ?_
    refine Run.yes (by simp only [go_sem] <;> rfl) (by simp only [go_sem, decide_true, beq_self_eq_true] <;> rfl) (by simp only [go_sem] <;> rfl) ?_
    refine Run.yes (by simp only [go_sem] <;> rfl) (by simp only [go_sem, decide_true, beq_self_eq_true] <;> rfl) (by simp only [go_sem] <;> rfl) ?_
    refine Run.yes (by simp only [go_sem] <;> rfl) (by simp only [go_sem, decide_true, beq_self_eq_true] <;> rfl) (by simp only [go_sem] <;> rfl) ?_
    iterate 2 (refine Run.op (by simp only [go_sem, decide_true, beq_self_eq_true] <;> rfl) (by simp only [go_sem] <;> rfl) ?_)
    refine Run.yes (by simp only [go_sem] <;> rfl) (by simp only [go_sem, decide_true, beq_self_eq_true] <;> rfl) (by simp only [go_sem] <;> rfl) ?_
    refine Run.yes (by simp only [go_sem] <;> rfl) (by simp only [go_sem, decide_true, beq_self_eq_true] <;> rfl) (by simp only [go_sem] <;> rfl) ?_
    refine Run.calw (by simp only [go_sem] <;> rfl) (c_meterworksref12_Readings _ _ (len_mend h2) (len_mend h2)) (by simp only [go_sem]) (by simp only [go_sem, decide_true, beq_self_eq_true] <;> rfl) (by simp only [go_sem, decide_true, beq_self_eq_true] <;> rfl) (by exact ⟨by first | exact WkR.pure rfl | exact WkR.nil _ | exact WkR.int (by first | omega | (simp; done) | (simp; omega)), by first | exact WkR.pure rfl | exact WkR.nil _ | exact WkR.int (by first | omega | (simp; done) | (simp; omega)), trivial⟩) (fr0) (by simp only [go_sem, decide_true, beq_self_eq_true] <;> rfl) ?_
    iterate 2 (refine Run.op (by simp only [go_sem, decide_true, beq_self_eq_true] <;> rfl) (by simp only [go_sem] <;> rfl) ?_)
    refine Run.yes (by simp only [go_sem] <;> rfl) (by simp only [go_sem, decide_true, beq_self_eq_true] <;> rfl) (by simp only [go_sem] <;> rfl) ?_
    refine Run.yes (by simp only [go_sem] <;> rfl) (by simp only [go_sem, decide_true, beq_self_eq_true] <;> rfl) (by simp only [go_sem] <;> rfl) ?_
    refine Run.yes (by simp only [go_sem] <;> rfl) (by simp only [go_sem, decide_true, beq_self_eq_true] <;> rfl) (by simp only [go_sem] <;> rfl) ?_
    iterate 2 (refine Run.op (by simp only [go_sem, decide_true, beq_self_eq_true] <;> rfl) (by simp only [go_sem] <;> rfl) ?_)
    refine Run.calw (by simp only [go_sem] <;> rfl) (c_law_alive) (by simp only [go_sem]) (by simp only [go_sem, decide_true, beq_self_eq_true] <;> rfl) (by simp only [go_sem, decide_true, beq_self_eq_true] <;> rfl) (by exact trivial) (fr0) (by simp only [go_sem, decide_true, beq_self_eq_true] <;> rfl) ?_
    iterate 2 (refine Run.op (by simp only [go_sem, decide_true, beq_self_eq_true] <;> rfl) (by simp only [go_sem] <;> rfl) ?_)
    refine Run.nil ?_
    exact Ends.fin [] (rs := [.tmp 2]) rfl (by simp only [go_sem, decide_true, beq_self_eq_true] <;> rfl) (by simp only [go_sem, decide_true, beq_self_eq_true] <;> first | rfl | ((repeat' (first | with_reducible_and_instances rfl | refine st_eq ?_ ?_ ?_ | refine ret_eq ?_ | refine tup_eq ?_ | refine tm_eq ?_ ?_ | refine arr_eq ?_ | refine cells_eq ?_ | refine val_eq ?_ | refine ls_eq ?_ ?_ | refine own_eq ?_ ?_ | refine sl_eq ?_ | refine b_eq ?_ | (refine i_eq ?_; omega))); done))

end Go.Mw
namespace Go.Mw
open Go.Proofs
set_option maxRecDepth 20000 in
set_option maxHeartbeats 16000000 in
/-- meterworks/card.explain -/
theorem c_card_explain_own (w : Walk) (h1 : w.rates.length ≤ 1000) (h2 : w.readings.length ≤ 1000) (h20 : ∀ h, (ofS w h).length ≤ 20) (hw : walkB w = true) : Contract Try.prog 43 [walkV w] (.leaf (.own 1000 0 (explF w).length (explF w).length)) [(1000, .arr 52 4 ((explF w).map encRepair))] := by
  have hn := (walk_len hw).2.2
  have hlr := len_reps hn
  refine con_of follows_mixed Try.func43 rfl (by simp only [List.length_cons, List.length_nil, Try.ntmps43]; omega) (by kernel_rfl) rfl ?_
  refine Exec.reg ?_
  iterate 2 (refine Run.op (by simp only [go_sem] <;> rfl) (by simp only [go_sem] <;> rfl) ?_)
  refine Run.nil ?_
  refine Exec.scp ?_
  refine Exec.lblS ?_
  refine Exec.assocS ?_
  refine Exec.reg ?_
  refine Run.nilC 2 0 1000 52 4 (by simp only [go_sem] <;> rfl) (by simp only [go_sem] <;> rfl) (by simp only [go_sem] <;> rfl) (by omega) (by omega) (by simp only [go_sem] <;> rfl) ?_
  refine Run.op (by simp only [go_sem] <;> rfl) (by simp only [go_sem] <;> rfl) ?_
  refine Run.cal (c_card_repairs w) (by simp only [go_sem]) (by simp only [go_sem] <;> rfl) (by exact ⟨by first | exact WkR.pure rfl | exact WkR.nil _ | exact WkR.int (by first | omega | (simp; done) | (simp; omega)), trivial⟩) (fr0) (by simp only [go_sem] <;> rfl) ?_
  refine Run.nil ?_
  refine Exec.blk ?_
  refine Exec.rangeL 66 [.pt (walkD w)] 900 (repV (repsS w)) [1, 2, 13] [1, 2, 1000] (fun k => [.obj 2 (.cells [.own 1000 0 (explK w k).length (explK w k).length]), .obj 1000 (.arr 52 4 ((explK w k).map encRepair))]) (fun _ => True) (fun k => by simp only [go_sem] <;> rfl) (by simp only [go_sem, explK_zero] <;> rfl) (fun _ => by rfl) (fun _ => by rfl) rfl (by simp only [go_sem] <;> rfl) (by simp only [go_sem]) (c_repairs_1 w h1 h2 h20 hw) (by decide +kernel) ?_ (fun k v hv hX => ?_) (fun hX => ?_)
  · trivial
  · skip
    obtain ⟨r, hr, rfl⟩ := repV_get hv
    have hkl := (List.getElem?_eq_some_iff.1 hr).1
    have hlk := len_explK w k (by omega)
    have hrm := List.mem_of_getElem? hr
    obtain ⟨hok, -⟩ := reps_ok hrm
    have hwk := with_ok hw hrm
    refine ⟨rfl, ?_⟩
    refine Exec.reg1 ?_
    refine Run.op (by simp only [go_sem, repD] <;> rfl) (by simp only [go_sem] <;> rfl) ?_
    refine Run.nil ?_
    refine ⟨rfl, ?_⟩
    refine Exec.blk1 ?_
    refine Exec.assocS ?_
    by_cases hf : misfitsS (withS w r) = none
    · skip
      have hft : fitR w r = true := by unfold fitR; rw [hf]; rfl
      have e0 := explK_succ hr
      refine Exec.reg ?_
      iterate 2 (refine Run.op (by simp only [go_sem, repD, hf, misV3] <;> rfl) (by simp only [go_sem] <;> rfl) ?_)
      refine Run.cal (c_card_with w r h1 h2 hw hok) (by simp only [go_sem]) (by simp only [go_sem, repD, hf, misV3] <;> rfl) (by exact ⟨by first | exact WkR.pure rfl | exact WkR.nil _ | exact WkR.int (by first | omega | (simp; done) | (simp; omega)), by first | exact WkR.pure rfl | exact WkR.nil _ | exact WkR.int (by first | omega | (simp; done) | (simp; omega)), trivial⟩) (fr0) (by simp only [go_sem, repD, hf, misV3] <;> rfl) ?_
      refine Run.cal (c_card_misfits (withS w r) (by rw [hwk.2.1]; exact h1) (by omega) (fun h => Nat.le_trans (len_with hok h) (h20 h)) hwk.1) (by simp only [go_sem]) (by simp only [go_sem, repD, hf, misV3] <;> rfl) (by exact ⟨by first | exact WkR.pure rfl | exact WkR.nil _ | exact WkR.int (by first | omega | (simp; done) | (simp; omega)), trivial⟩) (fr0) (by simp only [go_sem, repD, hf, misV3] <;> rfl) ?_
      iterate 7 (refine Run.op (by simp only [go_sem, repD, hf, misV3] <;> rfl) (by simp only [go_sem] <;> rfl) ?_)
      refine Run.nil ?_
      refine Exec.assocS ?_
      refine Exec.reg ?_
      refine Run.op (by simp only [go_sem, repD, hf, misV3] <;> rfl) (by simp only [go_sem] <;> rfl) ?_
      refine Run.nil ?_
      refine Exec.cndS (by simp only [go_sem, repD, hf, misV3] <;> rfl) (fun hb23 => ?_) (fun hb23 => ?_)
      · exact absurd hb23 (by simp)
      · skip
        refine Exec.skipS ?_
        by_cases hsw : ∃ a b, r = .sw a b
        · skip
          obtain ⟨a, b, rfl⟩ := hsw
          have e : explK w (k + 1) = explK w k ++ [⟨0, a, b, 0⟩] := by rw [e0]; unfold stepE; rw [if_pos hft]; rfl
          refine Exec.reg ?_
          refine Run.op (by simp only [go_sem, repD, hf, misV3] <;> rfl) (by simp only [go_sem] <;> rfl) ?_
          refine Run.nil ?_
          refine Exec.assocS ?_
          refine Exec.reg ?_
          refine Run.op (by simp only [go_sem, repD, hf, misV3] <;> rfl) (by simp only [go_sem] <;> rfl) ?_
          refine Run.nil ?_
          refine Exec.blk ?_
          refine Exec.reg ?_
          iterate 3 (refine Run.op (by simp only [go_sem, repD, hf, misV3] <;> rfl) (by simp only [go_sem] <;> rfl) ?_)
          refine Run.nil ?_
          refine Exec.cnd (by simp only [go_sem, repD, hf, misV3] <;> rfl) (fun hb26 => ?_) (fun hb26 => ?_)
          · skip
            refine Exec.reg ?_
            iterate 2 (refine Run.op (by simp only [go_sem, repD, hf, misV3] <;> rfl) (by simp only [go_sem] <;> rfl) ?_)
            refine Run.nil ?_
            refine Exec.reg1 ?_
            iterate 6 (refine Run.op (by simp only [go_sem, repD, hf, misV3] <;> rfl) (by simp only [go_sem] <;> rfl) ?_)
            refine Run.nil ?_
            refine BlkK.nrm ?_
            refine Exec.reg1 ?_
            iterate 3 (refine Run.op (by simp only [go_sem, repD, hf, misV3] <;> rfl) (by simp only [go_sem] <;> rfl) ?_)
            refine Run.op (by simp only [go_sem, repD, hf, misV3]; (try simp (disch := omega) only [if_pos]); (try simp only [go_sem, repD, hf, misV3]) <;> first | (refine ite_run ⟨by (try simp only [List.length_append, List.length_drop, List.length_take, List.length_map, List.length_cons, List.length_nil, List.length_replicate, List.length_set, List.length_range, Nat.zero_add]); omega, by (try simp only [List.length_append, List.length_drop, List.length_take, List.length_map, List.length_cons, List.length_nil, List.length_replicate, List.length_set, List.length_range, Nat.zero_add]); omega, by repeat (first | exact al_nil | assumption | refine al_app ?_ ?_ | refine al_drop ?_ | refine al_take ?_ | exact al_map (fun _ => rfl) | exact al_rep rfl | refine al_cons rfl ?_)⟩ ?_; simp only [go_sem, repD, hf, misV3] <;> rfl) | (refine ite_run ⟨by (try simp only [List.length_append, List.length_drop, List.length_take, List.length_map, List.length_cons, List.length_nil, List.length_replicate, List.length_set, List.length_range, Nat.zero_add]); omega, by repeat (first | exact al_nil | assumption | refine al_app ?_ ?_ | refine al_drop ?_ | refine al_take ?_ | exact al_map (fun _ => rfl) | exact al_rep rfl | refine al_cons rfl ?_)⟩ ?_; simp only [go_sem, repD, hf, misV3] <;> rfl) | rfl) (by simp only [go_sem] <;> rfl) ?_
            refine Run.op (by simp only [go_sem, repD, hf, misV3] <;> rfl) (by simp only [go_sem] <;> rfl) ?_
            refine Run.nil ?_
            refine Blk1K.nrm ?_
            refine RngK.nrm ?_ ?_
            · exact Ghost.kl [1, 2, 1000] (by simp only [go_sem, repD, hf, misV3]; first | ((repeat' (first | with_reducible_and_instances rfl | refine st_eq ?_ ?_ ?_ | refine ret_eq ?_ | refine tup_eq ?_ | refine tm_eq ?_ ?_ | refine arr_eq ?_ | refine cells_eq ?_ | refine val_eq ?_ | refine ls_eq ?_ ?_ | refine own_eq ?_ ?_ | refine sl_eq ?_ | refine b_eq ?_ | (refine i_eq ?_; omega))); all_goals (simp [e, encRepair])) | rfl)
            · trivial
          · exact absurd hb26 (by simp)
        · skip
          skip
          refine Exec.reg ?_
          refine Run.op (by simp only [go_sem, repD, hf, misV3] <;> rfl) (by simp only [go_sem] <;> rfl) ?_
          refine Run.nil ?_
          refine Exec.assocS ?_
          by_cases hcp : ∃ a, r = .cp a
          · skip
            obtain ⟨a, rfl⟩ := hcp
            have e : explK w (k + 1) = explK w k ++ [⟨1, a, 0, 0⟩] := by rw [e0]; unfold stepE; rw [if_pos hft]; rfl
            refine Exec.reg ?_
            refine Run.op (by simp only [go_sem, repD, hf, misV3] <;> rfl) (by simp only [go_sem] <;> rfl) ?_
            refine Run.nil ?_
            refine Exec.blk ?_
            refine Exec.reg ?_
            iterate 3 (refine Run.op (by simp only [go_sem, repD, hf, misV3] <;> rfl) (by simp only [go_sem] <;> rfl) ?_)
            refine Run.nil ?_
            refine Exec.cnd (by simp only [go_sem, repD, hf, misV3] <;> rfl) (fun hb26 => ?_) (fun hb26 => ?_)
            · exact absurd hb26 (by simp)
            · skip
              refine Exec.reg ?_
              iterate 3 (refine Run.op (by simp only [go_sem, repD, hf, misV3] <;> rfl) (by simp only [go_sem] <;> rfl) ?_)
              refine Run.nil ?_
              refine Exec.cnd (by simp only [go_sem, repD, hf, misV3] <;> rfl) (fun hb34 => ?_) (fun hb34 => ?_)
              · skip
                refine Exec.reg ?_
                iterate 2 (refine Run.op (by simp only [go_sem, repD, hf, misV3] <;> rfl) (by simp only [go_sem] <;> rfl) ?_)
                refine Run.nil ?_
                refine Exec.reg1 ?_
                iterate 4 (refine Run.op (by simp only [go_sem, repD, hf, misV3] <;> rfl) (by simp only [go_sem] <;> rfl) ?_)
                refine Run.nil ?_
                refine BlkK.nrm ?_
                refine Exec.reg1 ?_
                iterate 3 (refine Run.op (by simp only [go_sem, repD, hf, misV3] <;> rfl) (by simp only [go_sem] <;> rfl) ?_)
                refine Run.op (by simp only [go_sem, repD, hf, misV3]; (try simp (disch := omega) only [if_pos]); (try simp only [go_sem, repD, hf, misV3]) <;> first | (refine ite_run ⟨by (try simp only [List.length_append, List.length_drop, List.length_take, List.length_map, List.length_cons, List.length_nil, List.length_replicate, List.length_set, List.length_range, Nat.zero_add]); omega, by (try simp only [List.length_append, List.length_drop, List.length_take, List.length_map, List.length_cons, List.length_nil, List.length_replicate, List.length_set, List.length_range, Nat.zero_add]); omega, by repeat (first | exact al_nil | assumption | refine al_app ?_ ?_ | refine al_drop ?_ | refine al_take ?_ | exact al_map (fun _ => rfl) | exact al_rep rfl | refine al_cons rfl ?_)⟩ ?_; simp only [go_sem, repD, hf, misV3] <;> rfl) | (refine ite_run ⟨by (try simp only [List.length_append, List.length_drop, List.length_take, List.length_map, List.length_cons, List.length_nil, List.length_replicate, List.length_set, List.length_range, Nat.zero_add]); omega, by repeat (first | exact al_nil | assumption | refine al_app ?_ ?_ | refine al_drop ?_ | refine al_take ?_ | exact al_map (fun _ => rfl) | exact al_rep rfl | refine al_cons rfl ?_)⟩ ?_; simp only [go_sem, repD, hf, misV3] <;> rfl) | rfl) (by simp only [go_sem] <;> rfl) ?_
                refine Run.op (by simp only [go_sem, repD, hf, misV3] <;> rfl) (by simp only [go_sem] <;> rfl) ?_
                refine Run.nil ?_
                refine Blk1K.nrm ?_
                refine RngK.nrm ?_ ?_
                · exact Ghost.kl [1, 2, 1000] (by simp only [go_sem, repD, hf, misV3]; first | ((repeat' (first | with_reducible_and_instances rfl | refine st_eq ?_ ?_ ?_ | refine ret_eq ?_ | refine tup_eq ?_ | refine tm_eq ?_ ?_ | refine arr_eq ?_ | refine cells_eq ?_ | refine val_eq ?_ | refine ls_eq ?_ ?_ | refine own_eq ?_ ?_ | refine sl_eq ?_ | refine b_eq ?_ | (refine i_eq ?_; omega))); all_goals (simp [e, encRepair])) | rfl)
                · trivial
              · exact absurd hb34 (by simp)
          · skip
            obtain ⟨a, d, rfl⟩ : ∃ a d, r = .lt a d := by
              cases r with
              | sw a b => exact absurd ⟨a, b, rfl⟩ hsw
              | cp a => exact absurd ⟨a, rfl⟩ hcp
              | lt a d => exact ⟨a, d, rfl⟩
            have hd1000 := hok.2
            have e1 : explK w (k + 1) = addLate (explK w k) a d := by rw [e0]; unfold stepE; rw [if_pos hft]
            refine Exec.reg ?_
            refine Run.op (by simp only [go_sem, repD, hf, misV3] <;> rfl) (by simp only [go_sem] <;> rfl) ?_
            refine Run.nil ?_
            refine Exec.blk ?_
            refine Exec.reg ?_
            iterate 3 (refine Run.op (by simp only [go_sem, repD, hf, misV3] <;> rfl) (by simp only [go_sem] <;> rfl) ?_)
            refine Run.nil ?_
            refine Exec.cnd (by simp only [go_sem, repD, hf, misV3] <;> rfl) (fun hb26 => ?_) (fun hb26 => ?_)
            · exact absurd hb26 (by simp)
            · skip
              refine Exec.reg ?_
              iterate 3 (refine Run.op (by simp only [go_sem, repD, hf, misV3] <;> rfl) (by simp only [go_sem] <;> rfl) ?_)
              refine Run.nil ?_
              refine Exec.cnd (by simp only [go_sem, repD, hf, misV3] <;> rfl) (fun hb34 => ?_) (fun hb34 => ?_)
              · exact absurd hb34 (by simp)
              · skip
                refine Exec.reg ?_
                iterate 3 (refine Run.op (by simp only [go_sem, repD, hf, misV3] <;> rfl) (by simp only [go_sem] <;> rfl) ?_)
                refine Run.nil ?_
                refine Exec.cnd (by simp only [go_sem, repD, hf, misV3] <;> rfl) (fun hb40 => ?_) (fun hb40 => ?_)
                · skip
                  refine Exec.reg ?_
                  iterate 2 (refine Run.op (by simp only [go_sem, repD, hf, misV3] <;> rfl) (by simp only [go_sem] <;> rfl) ?_)
                  refine Run.nil ?_
                  refine Exec.reg ?_
                  iterate 8 (refine Run.op (by simp only [go_sem, repD, hf, misV3] <;> rfl) (by simp only [go_sem] <;> rfl) ?_)
                  refine Run.nil ?_
                  refine Exec.reg ?_
                  iterate 3 (refine Run.op (by simp only [go_sem, repD, hf, misV3] <;> rfl) (by simp only [go_sem] <;> rfl) ?_)
                  refine Run.nil ?_
                  by_cases hl0 : explK w k = []
                  · skip
                    have hg : decide (((explK w k).length : Int) > 0) = false := by rw [hl0]; rfl
                    have e : explK w (k + 1) = explK w k ++ [⟨2, a, d, d⟩] := by rw [e1, hl0]; rfl
                    refine Exec.opk 24 ?_
                    refine OpenK.op (by simp only [go_sem, repD, hf, misV3, hg] <;> rfl) (by simp only [go_sem] <;> rfl) (by simp only [go_sem] <;> rfl) ?_
                    refine OpenK.op (by simp only [go_sem, repD, hf, misV3, hg] <;> rfl) (by simp only [go_sem] <;> rfl) (by simp only [go_sem] <;> rfl) ?_
                    refine OpenK.op (by simp only [go_sem, repD, hf, misV3, hg] <;> rfl) (by simp only [go_sem] <;> rfl) (by simp only [go_sem] <;> rfl) ?_
                    refine OpenK.skp (by simp only [go_sem] <;> rfl) (by simp only [go_sem] <;> rfl) (by simp only [go_sem] <;> rfl) ?_
                    refine OpenK.skp (by simp only [go_sem] <;> rfl) (by simp only [go_sem] <;> rfl) (by simp only [go_sem] <;> rfl) ?_
                    refine OpenK.skp (by simp only [go_sem] <;> rfl) (by simp only [go_sem] <;> rfl) (by simp only [go_sem] <;> rfl) ?_
                    refine OpenK.skp (by simp only [go_sem] <;> rfl) (by simp only [go_sem] <;> rfl) (by simp only [go_sem] <;> rfl) ?_
                    refine OpenK.skp (by simp only [go_sem] <;> rfl) (by simp only [go_sem] <;> rfl) (by simp only [go_sem] <;> rfl) ?_
                    refine OpenK.skp (by simp only [go_sem] <;> rfl) (by simp only [go_sem] <;> rfl) (by simp only [go_sem] <;> rfl) ?_
                    refine OpenK.skp (by simp only [go_sem] <;> rfl) (by simp only [go_sem] <;> rfl) (by simp only [go_sem] <;> rfl) ?_
                    refine OpenK.skp (by simp only [go_sem] <;> rfl) (by simp only [go_sem] <;> rfl) (by simp only [go_sem] <;> rfl) ?_
                    refine OpenK.skp (by simp only [go_sem] <;> rfl) (by simp only [go_sem] <;> rfl) (by simp only [go_sem] <;> rfl) ?_
                    refine OpenK.skp (by simp only [go_sem] <;> rfl) (by simp only [go_sem] <;> rfl) (by simp only [go_sem] <;> rfl) ?_
                    refine OpenK.skp (by simp only [go_sem] <;> rfl) (by simp only [go_sem] <;> rfl) (by simp only [go_sem] <;> rfl) ?_
                    refine OpenK.skp (by simp only [go_sem] <;> rfl) (by simp only [go_sem] <;> rfl) (by simp only [go_sem] <;> rfl) ?_
                    refine OpenK.skp (by simp only [go_sem] <;> rfl) (by simp only [go_sem] <;> rfl) (by simp only [go_sem] <;> rfl) ?_
                    refine OpenK.skp (by simp only [go_sem] <;> rfl) (by simp only [go_sem] <;> rfl) (by simp only [go_sem] <;> rfl) ?_
                    refine OpenK.skp (by simp only [go_sem] <;> rfl) (by simp only [go_sem] <;> rfl) (by simp only [go_sem] <;> rfl) ?_
                    refine OpenK.skp (by simp only [go_sem] <;> rfl) (by simp only [go_sem] <;> rfl) (by simp only [go_sem] <;> rfl) ?_
                    refine OpenK.skp (by simp only [go_sem] <;> rfl) (by simp only [go_sem] <;> rfl) (by simp only [go_sem] <;> rfl) ?_
                    refine OpenK.skp (by simp only [go_sem] <;> rfl) (by simp only [go_sem] <;> rfl) (by simp only [go_sem] <;> rfl) ?_
                    refine OpenK.op (by simp only [go_sem, repD, hf, misV3, hg] <;> rfl) (by simp only [go_sem] <;> rfl) (by simp only [go_sem] <;> rfl) ?_
                    refine OpenK.nil (OpenE.finT (by kernel_rfl) (by kernel_rfl) (by kernel_rfl) ?_)
                    refine Exec.cnd (by simp only [go_sem, repD, hf, misV3, hg] <;> rfl) (fun hb72 => ?_) (fun hb72 => ?_)
                    · exact absurd hb72 (by simp)
                    · skip
                      refine BlkK.nrm ?_
                      refine Exec.reg1 ?_
                      iterate 3 (refine Run.op (by simp only [go_sem, repD, hf, misV3, hg] <;> rfl) (by simp only [go_sem] <;> rfl) ?_)
                      refine Run.op (by simp only [go_sem, repD, hf, misV3, hg]; (try simp (disch := omega) only [if_pos]); (try simp only [go_sem, repD, hf, misV3, hg]) <;> first | (refine ite_run ⟨by (try simp only [List.length_append, List.length_drop, List.length_take, List.length_map, List.length_cons, List.length_nil, List.length_replicate, List.length_set, List.length_range, Nat.zero_add]); omega, by (try simp only [List.length_append, List.length_drop, List.length_take, List.length_map, List.length_cons, List.length_nil, List.length_replicate, List.length_set, List.length_range, Nat.zero_add]); omega, by repeat (first | exact al_nil | assumption | refine al_app ?_ ?_ | refine al_drop ?_ | refine al_take ?_ | exact al_map (fun _ => rfl) | exact al_rep rfl | refine al_cons rfl ?_)⟩ ?_; simp only [go_sem, repD, hf, misV3, hg] <;> rfl) | (refine ite_run ⟨by (try simp only [List.length_append, List.length_drop, List.length_take, List.length_map, List.length_cons, List.length_nil, List.length_replicate, List.length_set, List.length_range, Nat.zero_add]); omega, by repeat (first | exact al_nil | assumption | refine al_app ?_ ?_ | refine al_drop ?_ | refine al_take ?_ | exact al_map (fun _ => rfl) | exact al_rep rfl | refine al_cons rfl ?_)⟩ ?_; simp only [go_sem, repD, hf, misV3, hg] <;> rfl) | rfl) (by simp only [go_sem] <;> rfl) ?_
                      refine Run.op (by simp only [go_sem, repD, hf, misV3, hg] <;> rfl) (by simp only [go_sem] <;> rfl) ?_
                      refine Run.nil ?_
                      refine Blk1K.nrm ?_
                      refine RngK.nrm ?_ ?_
                      · exact Ghost.kl [1, 2, 1000] (by simp only [go_sem, repD, hf, misV3, hg]; first | ((repeat' (first | with_reducible_and_instances rfl | refine st_eq ?_ ?_ ?_ | refine ret_eq ?_ | refine tup_eq ?_ | refine tm_eq ?_ ?_ | refine arr_eq ?_ | refine cells_eq ?_ | refine val_eq ?_ | refine ls_eq ?_ ?_ | refine own_eq ?_ ?_ | refine sl_eq ?_ | refine b_eq ?_ | (refine i_eq ?_; omega))); all_goals (simp [e, encRepair])) | rfl)
                      · trivial
                  · skip
                    have hg : decide (((explK w k).length : Int) > 0) = true := by have := List.length_pos_iff.2 hl0; simp; omega
                    have hll := List.length_pos_iff.2 hl0
                    obtain ⟨y, hy⟩ : ∃ y, (explK w k)[(explK w k).length - 1]? = some y := ⟨_, List.getElem?_eq_getElem (by omega)⟩
                    have hyl : (explK w k).getLast? = some y := by rw [List.getLast?_eq_getElem?]; exact hy
                    have t1 : (((explK w k).length : Int) - 1).toNat = (explK w k).length - 1 := by omega
                    refine Exec.opk 24 ?_
                    refine OpenK.op (by simp only [go_sem, repD, hf, misV3, hg, hy, t1] <;> rfl) (by simp only [go_sem] <;> rfl) (by simp only [go_sem] <;> rfl) ?_
                    refine OpenK.op (by simp only [go_sem, repD, hf, misV3, hg, hy, t1] <;> rfl) (by simp only [go_sem] <;> rfl) (by simp only [go_sem] <;> rfl) ?_
                    refine OpenK.op (by simp only [go_sem, repD, hf, misV3, hg, hy, t1] <;> rfl) (by simp only [go_sem] <;> rfl) (by simp only [go_sem] <;> rfl) ?_
                    refine OpenK.yes (by simp only [go_sem] <;> rfl) (by simp only [go_sem, repD, hf, misV3, hg, hy, t1] <;> rfl) (by simp only [go_sem] <;> rfl) (by simp only [go_sem] <;> rfl) ?_
                    refine OpenK.yes (by simp only [go_sem] <;> rfl) (by simp only [go_sem, repD, hf, misV3, hg, hy, t1] <;> rfl) (by simp only [go_sem] <;> rfl) (by simp only [go_sem] <;> rfl) ?_
                    refine OpenK.yes (by simp only [go_sem] <;> rfl) (by simp only [go_sem, repD, hf, misV3, hg, hy, t1]; (try simp (disch := omega) only [IntWalk.i64_in, if_neg, if_pos])<;> rfl) (by simp only [go_sem] <;> rfl) (by simp only [go_sem] <;> rfl) ?_
                    refine OpenK.yes (by simp only [go_sem] <;> rfl) (by simp only [go_sem, repD, hf, misV3, hg, hy, t1]; (try simp (disch := omega) only [if_pos]); (try simp only [go_sem, repD, hf, misV3, hg, hy, t1])<;> rfl) (by simp only [go_sem] <;> rfl) (by simp only [go_sem] <;> rfl) ?_
                    refine OpenK.yes (by simp only [go_sem] <;> rfl) (by simp only [go_sem, repD, hf, misV3, hg, hy, t1] <;> rfl) (by simp only [go_sem] <;> rfl) (by simp only [go_sem] <;> rfl) ?_
                    refine OpenK.yes (by simp only [go_sem] <;> rfl) (by simp only [go_sem, repD, hf, misV3, hg, hy, t1] <;> rfl) (by simp only [go_sem] <;> rfl) (by simp only [go_sem] <;> rfl) ?_
                    refine OpenK.yes (by simp only [go_sem] <;> rfl) (by simp only [go_sem, repD, hf, misV3, hg, hy, t1] <;> rfl) (by simp only [go_sem] <;> rfl) (by simp only [go_sem] <;> rfl) ?_
                    refine OpenK.yes (by simp only [go_sem] <;> rfl) (by simp only [go_sem, repD, hf, misV3, hg, hy, t1] <;> rfl) (by simp only [go_sem] <;> rfl) (by simp only [go_sem] <;> rfl) ?_
                    refine OpenK.yes (by simp only [go_sem] <;> rfl) (by simp only [go_sem, repD, hf, misV3, hg, hy, t1] <;> rfl) (by simp only [go_sem] <;> rfl) (by simp only [go_sem] <;> rfl) ?_
                    refine OpenK.yes (by simp only [go_sem] <;> rfl) (by simp only [go_sem, repD, hf, misV3, hg, hy, t1]; (try simp (disch := omega) only [IntWalk.i64_in, if_neg, if_pos])<;> rfl) (by simp only [go_sem] <;> rfl) (by simp only [go_sem] <;> rfl) ?_
                    refine OpenK.yes (by simp only [go_sem] <;> rfl) (by simp only [go_sem, repD, hf, misV3, hg, hy, t1]; (try simp (disch := omega) only [if_pos]); (try simp only [go_sem, repD, hf, misV3, hg, hy, t1])<;> rfl) (by simp only [go_sem] <;> rfl) (by simp only [go_sem] <;> rfl) ?_
                    refine OpenK.yes (by simp only [go_sem] <;> rfl) (by simp only [go_sem, repD, hf, misV3, hg, hy, t1] <;> rfl) (by simp only [go_sem] <;> rfl) (by simp only [go_sem] <;> rfl) ?_
                    refine OpenK.yes (by simp only [go_sem] <;> rfl) (by simp only [go_sem, repD, hf, misV3, hg, hy, t1] <;> rfl) (by simp only [go_sem] <;> rfl) (by simp only [go_sem] <;> rfl) ?_
                    refine OpenK.yes (by simp only [go_sem] <;> rfl) (by simp only [go_sem, repD, hf, misV3, hg, hy, t1] <;> rfl) (by simp only [go_sem] <;> rfl) (by simp only [go_sem] <;> rfl) ?_
                    refine OpenK.yes (by simp only [go_sem] <;> rfl) (by simp only [go_sem, repD, hf, misV3, hg, hy, t1] <;> rfl) (by simp only [go_sem] <;> rfl) (by simp only [go_sem] <;> rfl) ?_
                    refine OpenK.yes (by simp only [go_sem] <;> rfl) (by simp only [go_sem, repD, hf, misV3, hg, hy, t1]; (try simp (disch := omega) only [IntWalk.i64_in, if_neg, if_pos])<;> rfl) (by simp only [go_sem] <;> rfl) (by simp only [go_sem] <;> rfl) ?_
                    refine OpenK.yes (by simp only [go_sem] <;> rfl) (by simp only [go_sem, repD, hf, misV3, hg, hy, t1] <;> rfl) (by simp only [go_sem] <;> rfl) (by simp only [go_sem] <;> rfl) ?_
                    refine OpenK.yes (by simp only [go_sem] <;> rfl) (by simp only [go_sem, repD, hf, misV3, hg, hy, t1] <;> rfl) (by simp only [go_sem] <;> rfl) (by simp only [go_sem] <;> rfl) ?_
                    refine OpenK.op (by simp only [go_sem, repD, hf, misV3, hg, hy, t1] <;> rfl) (by simp only [go_sem] <;> rfl) (by simp only [go_sem] <;> rfl) ?_
                    refine OpenK.nil (OpenE.finT (by kernel_rfl) (by kernel_rfl) (by kernel_rfl) ?_)
                    refine Exec.cnd (by simp only [go_sem, repD, hf, misV3, hg, hy, t1] <;> rfl) (fun hb72 => ?_) (fun hb72 => ?_)
                    · skip
                      have hy3 : y = ⟨2, a, y.b, (d : Int) - 1⟩ := by
                        obtain ⟨k0, a0, b0, c0⟩ := y
                        simp only [Bool.and_eq_true, beq_iff_eq] at hb72
                        obtain ⟨q1, q2, q3⟩ := hb72
                        subst q1 q2 q3; rfl
                      have e : explK w (k + 1) = (explK w k).set ((explK w k).length - 1) ⟨y.kind, y.a, y.b, d⟩ := by
                        rw [e1]; unfold addLate; rw [hyl]; simp only; rw [if_pos hy3, last_set hyl]
                      refine Exec.reg ?_
                      iterate 2 (refine Run.op (by simp only [go_sem, repD, hf, misV3, hg, hy, t1] <;> rfl) (by simp only [go_sem] <;> rfl) ?_)
                      refine Run.op (by simp only [go_sem, repD, hf, misV3, hg, hy, t1]; (try simp (disch := omega) only [IntWalk.i64_in, if_neg, if_pos])<;> rfl) (by simp only [go_sem] <;> rfl) ?_
                      iterate 2 (refine Run.op (by simp only [go_sem, repD, hf, misV3, hg, hy, t1] <;> rfl) (by simp only [go_sem] <;> rfl) ?_)
                      refine Run.op (by simp only [go_sem, repD, hf, misV3, hg, hy, t1]; (try simp (disch := omega) only [if_pos]); (try simp only [go_sem, repD, hf, misV3, hg, hy, t1])<;> rfl) (by simp only [go_sem] <;> rfl) ?_
                      iterate 2 (refine Run.op (by simp only [go_sem, repD, hf, misV3, hg, hy, t1] <;> rfl) (by simp only [go_sem] <;> rfl) ?_)
                      refine Run.nil ?_
                      refine BlkK.mis (by decide) ?_
                      refine Blk1K.hit ?_
                      refine RngK.nrm ?_ ?_
                      · exact Ghost.kl [1, 2, 1000] (by simp only [go_sem, repD, hf, misV3, hg, hy, t1]; first | ((repeat' (first | with_reducible_and_instances rfl | refine st_eq ?_ ?_ ?_ | refine ret_eq ?_ | refine tup_eq ?_ | refine tm_eq ?_ ?_ | refine arr_eq ?_ | refine cells_eq ?_ | refine val_eq ?_ | refine ls_eq ?_ ?_ | refine own_eq ?_ ?_ | refine sl_eq ?_ | refine b_eq ?_ | (refine i_eq ?_; omega))); all_goals (simp [e, List.map_set, encRepair])) | rfl)
                      · trivial
                    · skip
                      have hy3 : ¬ y = ⟨2, a, y.b, (d : Int) - 1⟩ := fun hy4 => by
                        rw [hy4] at hb72; simp at hb72
                      have e : explK w (k + 1) = explK w k ++ [⟨2, a, d, d⟩] := by
                        rw [e1]; unfold addLate; rw [hyl]; simp only; rw [if_neg hy3]
                      refine BlkK.nrm ?_
                      refine Exec.reg1 ?_
                      iterate 3 (refine Run.op (by simp only [go_sem, repD, hf, misV3, hg, hy, t1] <;> rfl) (by simp only [go_sem] <;> rfl) ?_)
                      refine Run.op (by simp only [go_sem, repD, hf, misV3, hg, hy, t1]; (try simp (disch := omega) only [if_pos]); (try simp only [go_sem, repD, hf, misV3, hg, hy, t1]) <;> first | (refine ite_run ⟨by (try simp only [List.length_append, List.length_drop, List.length_take, List.length_map, List.length_cons, List.length_nil, List.length_replicate, List.length_set, List.length_range, Nat.zero_add]); omega, by (try simp only [List.length_append, List.length_drop, List.length_take, List.length_map, List.length_cons, List.length_nil, List.length_replicate, List.length_set, List.length_range, Nat.zero_add]); omega, by repeat (first | exact al_nil | assumption | refine al_app ?_ ?_ | refine al_drop ?_ | refine al_take ?_ | exact al_map (fun _ => rfl) | exact al_rep rfl | refine al_cons rfl ?_)⟩ ?_; simp only [go_sem, repD, hf, misV3, hg, hy, t1] <;> rfl) | (refine ite_run ⟨by (try simp only [List.length_append, List.length_drop, List.length_take, List.length_map, List.length_cons, List.length_nil, List.length_replicate, List.length_set, List.length_range, Nat.zero_add]); omega, by repeat (first | exact al_nil | assumption | refine al_app ?_ ?_ | refine al_drop ?_ | refine al_take ?_ | exact al_map (fun _ => rfl) | exact al_rep rfl | refine al_cons rfl ?_)⟩ ?_; simp only [go_sem, repD, hf, misV3, hg, hy, t1] <;> rfl) | rfl) (by simp only [go_sem] <;> rfl) ?_
                      refine Run.op (by simp only [go_sem, repD, hf, misV3, hg, hy, t1] <;> rfl) (by simp only [go_sem] <;> rfl) ?_
                      refine Run.nil ?_
                      refine Blk1K.nrm ?_
                      refine RngK.nrm ?_ ?_
                      · exact Ghost.kl [1, 2, 1000] (by simp only [go_sem, repD, hf, misV3, hg, hy, t1]; first | ((repeat' (first | with_reducible_and_instances rfl | refine st_eq ?_ ?_ ?_ | refine ret_eq ?_ | refine tup_eq ?_ | refine tm_eq ?_ ?_ | refine arr_eq ?_ | refine cells_eq ?_ | refine val_eq ?_ | refine ls_eq ?_ ?_ | refine own_eq ?_ ?_ | refine sl_eq ?_ | refine b_eq ?_ | (refine i_eq ?_; omega))); all_goals (simp [e, encRepair])) | rfl)
                      · trivial
                · exact absurd hb40 (by simp)
    · skip
      obtain ⟨q, hq⟩ : ∃ q, misfitsS (withS w r) = some q := by
        cases h : misfitsS (withS w r) with
        | none => exact absurd h hf
        | some q => exact ⟨q, rfl⟩
      have hft : ¬ fitR w r = true := by unfold fitR; rw [hq]; exact Bool.false_ne_true
      have e : explK w (k + 1) = explK w k := by rw [explK_succ hr]; unfold stepE; rw [if_neg hft]
      refine Exec.reg ?_
      iterate 2 (refine Run.op (by simp only [go_sem, repD, hq, misV3, e] <;> rfl) (by simp only [go_sem] <;> rfl) ?_)
      refine Run.cal (c_card_with w r h1 h2 hw hok) (by simp only [go_sem]) (by simp only [go_sem, repD, hq, misV3, e] <;> rfl) (by exact ⟨by first | exact WkR.pure rfl | exact WkR.nil _ | exact WkR.int (by first | omega | (simp; done) | (simp; omega)), by first | exact WkR.pure rfl | exact WkR.nil _ | exact WkR.int (by first | omega | (simp; done) | (simp; omega)), trivial⟩) (fr0) (by simp only [go_sem, repD, hq, misV3, e] <;> rfl) ?_
      refine Run.cal (c_card_misfits (withS w r) (by rw [hwk.2.1]; exact h1) (by omega) (fun h => Nat.le_trans (len_with hok h) (h20 h)) hwk.1) (by simp only [go_sem]) (by simp only [go_sem, repD, hq, misV3, e] <;> rfl) (by exact ⟨by first | exact WkR.pure rfl | exact WkR.nil _ | exact WkR.int (by first | omega | (simp; done) | (simp; omega)), trivial⟩) (fr0) (by simp only [go_sem, repD, hq, misV3, e] <;> rfl) ?_
      iterate 7 (refine Run.op (by simp only [go_sem, repD, hq, misV3, e] <;> rfl) (by simp only [go_sem] <;> rfl) ?_)
      refine Run.nil ?_
      refine Exec.assocS ?_
      refine Exec.reg ?_
      refine Run.op (by simp only [go_sem, repD, hq, misV3, e] <;> rfl) (by simp only [go_sem] <;> rfl) ?_
      refine Run.nil ?_
      refine Exec.cndS (by simp only [go_sem, repD, hq, misV3, e] <;> rfl) (fun hb23 => ?_) (fun hb23 => ?_)
      · skip
        refine Exec.exitS ?_
        refine Blk1K.hit ?_
        refine RngK.nrm ?_ ?_
        · exact Ghost.kl [1, 2, 1000] (by simp only [go_sem, repD, hq, misV3, e]; first | ((repeat' (first | with_reducible_and_instances rfl | refine st_eq ?_ ?_ ?_ | refine ret_eq ?_ | refine tup_eq ?_ | refine tm_eq ?_ ?_ | refine arr_eq ?_ | refine cells_eq ?_ | refine val_eq ?_ | refine ls_eq ?_ ?_ | refine own_eq ?_ ?_ | refine sl_eq ?_ | refine b_eq ?_ | (refine i_eq ?_; omega))); done) | rfl)
        · trivial
      · exact absurd hb23 (by simp)
  · skip
    have e : explK w (repV (repsS w)).length = explF w := by rw [repV_len]; exact explK_end w
    have hle := len_explK w (repV (repsS w)).length (by rw [repV_len]; omega)
    rw [e, repV_len] at hle
    refine BlkK.nrm ?_
    refine Exec.reg ?_
    iterate 2 (refine Run.op (by simp only [go_sem, e] <;> rfl) (by simp only [go_sem] <;> rfl) ?_)
    refine Run.nil ?_
    exact Ends.fin [1000] (rs := [.cell 2 36]) rfl (by simp only [go_sem, e] <;> rfl) (by simp only [go_sem, e] <;> first | rfl | ((repeat' (first | with_reducible_and_instances rfl | refine st_eq ?_ ?_ ?_ | refine ret_eq ?_ | refine tup_eq ?_ | refine tm_eq ?_ ?_ | refine arr_eq ?_ | refine cells_eq ?_ | refine val_eq ?_ | refine ls_eq ?_ ?_ | refine own_eq ?_ ?_ | refine sl_eq ?_ | refine b_eq ?_ | (refine i_eq ?_; omega))); done))

def sparR : Rep → List (List D)
  | .cp _ => [[.i 0, .i 0, .i 0]]
  | _ => []
def mendSp (w : Walk) : List (List D) := match allS w with
  | [x] => sparR (repOf x)
  | _ => []
set_option maxRecDepth 20000 in
/-- meterworks/card.Explain -/
theorem c_card_Explain_own (w : Walk) (h1 : w.rates.length ≤ 1000) (h2 : w.readings.length ≤ 1000) (h20 : walkB w = true → ∀ h, (ofS w h).length ≤ 20) (he : (explainR w).2 = 0) : Contract Try.prog 18 [walkV w] (.tup [(false, [.own 19000 0 (explainR w).1.length (explainR w).1.length]), (false, [.d (.i 0)])]) [(19000, .arr 52 4 ((explainR w).1.map encRepair))] := by
  obtain ⟨hw, hl, hne⟩ := expl_zero he
  have hall := explF_all hw
  have hl0 := List.length_pos_iff.2 hne
  refine con_of follows_mixed Try.func18 rfl (by simp only [List.length_cons, List.length_nil, Try.ntmps18]; omega) (by kernel_rfl) rfl ?_
  refine Exec.reg ?_
  iterate 3 (refine Run.op (by simp only [go_sem, hl, hall] <;> rfl) (by simp only [go_sem] <;> rfl) ?_)
  refine Run.nil ?_
  refine Exec.assocS ?_
  refine Exec.reg ?_
  refine Run.op (by simp only [go_sem, hl, hall] <;> rfl) (by simp only [go_sem] <;> rfl) ?_
  refine Run.cal (c_card_Misfit w h1 h2 h20) (by simp only [go_sem]) (by simp only [go_sem, hl, hall] <;> rfl) (by exact ⟨by first | exact WkR.pure rfl | exact WkR.nil _ | exact WkR.int (by first | omega | (simp; done) | (simp; omega)), trivial⟩) (fr0) (by simp only [go_sem, hl, hall] <;> rfl) ?_
  iterate 7 (refine Run.op (by simp only [go_sem, hl, hall] <;> rfl) (by simp only [go_sem] <;> rfl) ?_)
  refine Run.nil ?_
  refine Exec.assocS ?_
  refine Exec.reg ?_
  iterate 2 (refine Run.op (by simp only [go_sem, hl, hall] <;> rfl) (by simp only [go_sem] <;> rfl) ?_)
  refine Run.nil ?_
  refine Exec.cndS (by simp only [go_sem, hl, hall] <;> rfl) (fun hb14 => ?_) (fun hb14 => ?_)
  · skip
    have hm : ¬ (misfitR w).2.2 = 0 := by simpa using hb14
    rw [expl_no hm] at he
    exact absurd he hm
  · skip
    refine Exec.skipS ?_
    refine Exec.assocS ?_
    refine Exec.reg ?_
    refine Run.op (by simp only [go_sem, hl, hall] <;> rfl) (by simp only [go_sem] <;> rfl) ?_
    refine Run.cal (c_card_explain_own w h1 h2 (h20 hw) hw) (by simp only [go_sem]) (by simp only [go_sem, hl, hall] <;> rfl) (by exact ⟨by first | exact WkR.pure rfl | exact WkR.nil _ | exact WkR.int (by first | omega | (simp; done) | (simp; omega)), trivial⟩) (fr1 (by simp only [go_sem] <;> rfl)) (by simp only [go_sem, hl, hall] <;> rfl) ?_
    refine Run.op (by simp only [go_sem, hl, hall] <;> rfl) (by simp only [go_sem] <;> rfl) ?_
    refine Run.nil ?_
    refine Exec.assocS ?_
    refine Exec.reg ?_
    iterate 3 (refine Run.op (by simp only [go_sem, hl, hall] <;> rfl) (by simp only [go_sem] <;> rfl) ?_)
    refine Run.nil ?_
    refine Exec.cndS (by simp only [go_sem, hl, hall] <;> rfl) (fun hb20 => ?_) (fun hb20 => ?_)
    · skip
      have : (allS w).length = 0 := Int.ofNat_inj.1 (by simpa using hb20)
      omega
    · skip
      refine Exec.skipS ?_
      refine Exec.reg ?_
      iterate 3 (refine Run.op (by simp only [go_sem, hl, hall] <;> rfl) (by simp only [go_sem] <;> rfl) ?_)
      refine Run.nil ?_
      exact Ends.fin [19000] (rs := [.tmp 2, .tmp 3]) rfl (by simp only [go_sem, hl, hall] <;> rfl) (by simp only [go_sem, hl, hall] <;> first | rfl | ((repeat' (first | with_reducible_and_instances rfl | refine st_eq ?_ ?_ ?_ | refine ret_eq ?_ | refine tup_eq ?_ | refine tm_eq ?_ ?_ | refine arr_eq ?_ | refine cells_eq ?_ | refine val_eq ?_ | refine ls_eq ?_ ?_ | refine own_eq ?_ ?_ | refine sl_eq ?_ | refine b_eq ?_ | (refine i_eq ?_; omega))); done))

set_option maxRecDepth 20000 in
set_option maxHeartbeats 4000000 in
/-- meterworks/card.with -/
theorem c_card_with_own (w : Walk) (r : Rep) (h1 : w.rates.length ≤ 1000) (h2 : w.readings.length ≤ 1000) (hw : walkB w = true) (hr : repOk w r) : Contract Try.prog 46 [walkV w, .leaf (.d (repD r))] (.val true [.d (.sl 2 (w.rates.map encSpan)), .own 9 0 (withS w r).readings.length ((withS w r).readings.length + (sparR r).length)]) [(9, .arr 46 3 ((withS w r).readings.map encReading ++ sparR r))] := by
  have hcp : List.take w.readings.length (List.map encReading w.readings) ++ List.drop (List.take w.readings.length (List.map encReading w.readings)).length (List.replicate w.readings.length [D.raw (Value.int IntKind.i64 0), D.raw (Value.int IntKind.i64 0), D.raw (Value.int IntKind.i64 0)]) = List.map encReading w.readings := by
    rw [List.take_of_length_le (by simp), List.drop_eq_nil_of_le (by simp), List.append_nil]
  have hcq : ∀ a, a < w.readings.length → List.take (w.readings.length - 1) ((List.take a w.readings ++ List.drop (a + 1) w.readings).map encReading ++ [[D.i 0, D.i 0, D.i 0]]) = (List.take a w.readings ++ List.drop (a + 1) w.readings).map encReading := fun a ha => by
    have hq : (List.map encReading (List.take a w.readings ++ List.drop (a + 1) w.readings)).length = w.readings.length - 1 := by simp; omega
    rw [← hq]; exact List.take_left
  have hL9 : ∀ a, a < w.readings.length → (List.take a w.readings).length + (List.drop (a + 1) w.readings).length + 1 = w.readings.length := fun a ha => by simp; omega
  rcases r with ⟨a, b⟩ | ⟨a⟩ | ⟨a, d⟩
  · skip
    obtain ⟨hr1, hr2⟩ := hr
    have h9 := hcp
    have hal := rd_get (w := w) (i := a) (by omega)
    have hbl := rd_get hr2
    refine con_of follows_mixed Try.func46 rfl (by simp only [List.length_cons, List.length_nil, Try.ntmps46]; omega) (by kernel_rfl) rfl ?_
    refine Exec.reg ?_
    iterate 2 (refine Run.op (by simp only [go_sem, withS, sparR] <;> rfl) (by simp only [go_sem] <;> rfl) ?_)
    refine Run.nil ?_
    refine Exec.reg ?_
    iterate 3 (refine Run.op (by simp only [go_sem, withS, sparR] <;> rfl) (by simp only [go_sem] <;> rfl) ?_)
    refine Run.op (by simp only [go_sem, withS, sparR]; (try simp (disch := omega) only [if_pos]); (try simp only [go_sem, withS, sparR])<;> rfl) (by simp only [go_sem] <;> rfl) ?_
    refine Run.op (by simp only [go_sem, withS, sparR] <;> rfl) (by simp only [go_sem] <;> rfl) ?_
    refine Run.nil ?_
    refine Exec.reg ?_
    iterate 3 (refine Run.op (by simp only [go_sem, withS, sparR] <;> rfl) (by simp only [go_sem] <;> rfl) ?_)
    refine Run.op (by simp only [go_sem, withS, sparR]; (try simp (disch := omega) only [if_pos]); (try simp only [go_sem, withS, sparR]); rw [if_pos]; (focus (simp only [go_sem, withS, sparR] <;> rfl)); repeat (first | exact al_nil | assumption | refine al_app ?_ ?_ | refine al_drop ?_ | refine al_take ?_ | exact al_map (fun _ => rfl) | exact al_rep rfl | refine al_cons rfl ?_)) (by simp only [go_sem] <;> rfl) ?_
    refine Run.nil ?_
    refine Exec.reg ?_
    rw [hcp]
    iterate 2 (refine Run.op (by simp only [go_sem, withS, sparR] <;> rfl) (by simp only [go_sem] <;> rfl) ?_)
    refine Run.invA 900 9 (c_made_swap w.readings h2 a b _ _ hal hbl (by omega)) (by simp; (try omega)) (by simp only [go_sem, repD] <;> rfl) (by simp only [go_sem] <;> rfl) (by kernel_rfl) (by simp only [go_sem] <;> rfl) (by simp only [go_sem] <;> rfl) (by exact ⟨WkR.pure rfl, WkR.of rfl rfl, trivial⟩) (by simp only [go_sem] <;> rfl) ?_
    iterate 2 (refine Run.op (by simp only [go_sem, withS, sparR] <;> rfl) (by simp only [go_sem] <;> rfl) ?_)
    refine Run.nil ?_
    refine Exec.reg ?_
    iterate 2 (refine Run.op (by simp only [go_sem, withS, sparR] <;> rfl) (by simp only [go_sem] <;> rfl) ?_)
    refine Run.nil ?_
    exact Ends.fin [9] (rs := [.cell 4 25]) rfl (by simp only [go_sem, withS, sparR] <;> rfl) (by simp only [go_sem, withS, sparR] <;> first | rfl | ((repeat' (first | with_reducible_and_instances rfl | refine st_eq ?_ ?_ ?_ | refine ret_eq ?_ | refine tup_eq ?_ | refine tm_eq ?_ ?_ | refine arr_eq ?_ | refine cells_eq ?_ | refine val_eq ?_ | refine ls_eq ?_ ?_ | refine own_eq ?_ ?_ | refine sl_eq ?_ | refine b_eq ?_ | (refine i_eq ?_; omega))); (first | rfl | (refine Eq.trans ?_ (List.take_of_length_le (by simp)).symm; simp [withS, List.map_set, encReading]))))
  · skip
    have hr1 : a < w.readings.length := hr
    have h9 := hL9 a hr1
    refine con_of follows_mixed Try.func46 rfl (by simp only [List.length_cons, List.length_nil, Try.ntmps46]; omega) (by kernel_rfl) rfl ?_
    refine Exec.reg ?_
    iterate 2 (refine Run.op (by simp only [go_sem, withS, sparR] <;> rfl) (by simp only [go_sem] <;> rfl) ?_)
    refine Run.nil ?_
    refine Exec.reg ?_
    iterate 3 (refine Run.op (by simp only [go_sem, withS, sparR] <;> rfl) (by simp only [go_sem] <;> rfl) ?_)
    refine Run.op (by simp only [go_sem, withS, sparR]; (try simp (disch := omega) only [if_pos]); (try simp only [go_sem, withS, sparR])<;> rfl) (by simp only [go_sem] <;> rfl) ?_
    refine Run.op (by simp only [go_sem, withS, sparR] <;> rfl) (by simp only [go_sem] <;> rfl) ?_
    refine Run.nil ?_
    refine Exec.reg ?_
    iterate 3 (refine Run.op (by simp only [go_sem, withS, sparR] <;> rfl) (by simp only [go_sem] <;> rfl) ?_)
    refine Run.op (by simp only [go_sem, withS, sparR]; (try simp (disch := omega) only [if_pos]); (try simp only [go_sem, withS, sparR]); rw [if_pos]; (focus (simp only [go_sem, withS, sparR] <;> rfl)); repeat (first | exact al_nil | assumption | refine al_app ?_ ?_ | refine al_drop ?_ | refine al_take ?_ | exact al_map (fun _ => rfl) | exact al_rep rfl | refine al_cons rfl ?_)) (by simp only [go_sem] <;> rfl) ?_
    refine Run.nil ?_
    refine Exec.reg ?_
    rw [hcp]
    iterate 2 (refine Run.op (by simp only [go_sem, withS, sparR] <;> rfl) (by simp only [go_sem] <;> rfl) ?_)
    refine Run.invA 900 9 (c_made_copied w.readings h2 a hr1) (by simp; (try omega)) (by simp only [go_sem, repD] <;> rfl) (by simp only [go_sem] <;> rfl) (by kernel_rfl) (by simp only [go_sem] <;> rfl) (by simp only [go_sem] <;> rfl) (by exact ⟨WkR.pure rfl, WkR.of rfl rfl, trivial⟩) (by simp only [go_sem] <;> rfl) ?_
    iterate 2 (refine Run.op (by simp only [go_sem, withS, sparR] <;> rfl) (by simp only [go_sem] <;> rfl) ?_)
    refine Run.nil ?_
    refine Exec.reg ?_
    iterate 2 (refine Run.op (by simp only [go_sem, withS, sparR] <;> rfl) (by simp only [go_sem] <;> rfl) ?_)
    refine Run.nil ?_
    exact Ends.fin [9] (rs := [.cell 4 25]) rfl (by simp only [go_sem, withS, sparR] <;> rfl) (by simp only [go_sem, withS, sparR] <;> first | rfl | ((repeat' (first | with_reducible_and_instances rfl | refine st_eq ?_ ?_ ?_ | refine ret_eq ?_ | refine tup_eq ?_ | refine tm_eq ?_ ?_ | refine arr_eq ?_ | refine cells_eq ?_ | refine val_eq ?_ | refine ls_eq ?_ ?_ | refine own_eq ?_ ?_ | refine sl_eq ?_ | refine b_eq ?_ | (refine i_eq ?_; omega))); (first | rfl | (have e9 := hL9 a hr1; rw [show (List.take a w.readings).length + (List.drop (a + 1) w.readings).length = w.readings.length - 1 by omega, show w.readings.length - 1 + 1 = w.readings.length by omega]))))
  · skip
    obtain ⟨hr1, hr2⟩ := hr
    have h9 := hcp
    have hal := rd_get hr1
    have hra := read_ok hw hr1
    refine con_of follows_mixed Try.func46 rfl (by simp only [List.length_cons, List.length_nil, Try.ntmps46]; omega) (by kernel_rfl) rfl ?_
    refine Exec.reg ?_
    iterate 2 (refine Run.op (by simp only [go_sem, withS, sparR] <;> rfl) (by simp only [go_sem] <;> rfl) ?_)
    refine Run.nil ?_
    refine Exec.reg ?_
    iterate 3 (refine Run.op (by simp only [go_sem, withS, sparR] <;> rfl) (by simp only [go_sem] <;> rfl) ?_)
    refine Run.op (by simp only [go_sem, withS, sparR]; (try simp (disch := omega) only [if_pos]); (try simp only [go_sem, withS, sparR])<;> rfl) (by simp only [go_sem] <;> rfl) ?_
    refine Run.op (by simp only [go_sem, withS, sparR] <;> rfl) (by simp only [go_sem] <;> rfl) ?_
    refine Run.nil ?_
    refine Exec.reg ?_
    iterate 3 (refine Run.op (by simp only [go_sem, withS, sparR] <;> rfl) (by simp only [go_sem] <;> rfl) ?_)
    refine Run.op (by simp only [go_sem, withS, sparR]; (try simp (disch := omega) only [if_pos]); (try simp only [go_sem, withS, sparR]); rw [if_pos]; (focus (simp only [go_sem, withS, sparR] <;> rfl)); repeat (first | exact al_nil | assumption | refine al_app ?_ ?_ | refine al_drop ?_ | refine al_take ?_ | exact al_map (fun _ => rfl) | exact al_rep rfl | refine al_cons rfl ?_)) (by simp only [go_sem] <;> rfl) ?_
    refine Run.nil ?_
    refine Exec.reg ?_
    rw [hcp]
    iterate 2 (refine Run.op (by simp only [go_sem, withS, sparR] <;> rfl) (by simp only [go_sem] <;> rfl) ?_)
    refine Run.invA 900 9 (c_made_late w.readings h2 a d _ hal ⟨hra.2.2.1, hra.2.2.2.1⟩ hr2) (by simp; (try omega)) (by simp only [go_sem, repD] <;> rfl) (by simp only [go_sem] <;> rfl) (by kernel_rfl) (by simp only [go_sem] <;> rfl) (by simp only [go_sem] <;> rfl) (by exact ⟨WkR.pure rfl, WkR.of rfl rfl, trivial⟩) (by simp only [go_sem] <;> rfl) ?_
    iterate 2 (refine Run.op (by simp only [go_sem, withS, sparR] <;> rfl) (by simp only [go_sem] <;> rfl) ?_)
    refine Run.nil ?_
    refine Exec.reg ?_
    iterate 2 (refine Run.op (by simp only [go_sem, withS, sparR] <;> rfl) (by simp only [go_sem] <;> rfl) ?_)
    refine Run.nil ?_
    exact Ends.fin [9] (rs := [.cell 4 25]) rfl (by simp only [go_sem, withS, sparR] <;> rfl) (by simp only [go_sem, withS, sparR] <;> first | rfl | ((repeat' (first | with_reducible_and_instances rfl | refine st_eq ?_ ?_ ?_ | refine ret_eq ?_ | refine tup_eq ?_ | refine tm_eq ?_ ?_ | refine arr_eq ?_ | refine cells_eq ?_ | refine val_eq ?_ | refine ls_eq ?_ ?_ | refine own_eq ?_ ?_ | refine sl_eq ?_ | refine b_eq ?_ | (refine i_eq ?_; omega))); (first | rfl | (refine Eq.trans ?_ (List.take_of_length_le (by simp)).symm; simp [withS, List.map_set, encReading]))))

set_option maxRecDepth 20000 in
set_option maxHeartbeats 1000000 in
/-- meterworks/card.Mend -/
theorem c_card_Mend_own (w : Walk) (h1 : w.rates.length ≤ 1000) (h2 : w.readings.length ≤ 1000) (h20 : walkB w = true → ∀ h, (ofS w h).length ≤ 20) (he : (mendR w).2 = 0) : Contract Try.prog 20 [walkV w] (.tup [(false, [.own 25009 0 (mendR w).1.length ((mendR w).1.length + (mendSp w).length)]), (false, [.d (.i 0)])]) [(25009, .arr 46 3 ((mendR w).1.map encReading ++ mendSp w))] := by
  have he1 : (explainR w).2 = 0 := by
    unfold mendR at he
    split at he
    · assumption
    · exact he
  obtain ⟨hw, hl, hne⟩ := expl_zero he1
  obtain ⟨x, hx⟩ : ∃ x, allS w = [x] := by
    have he2 := he
    rw [mendR, if_pos he1, hl] at he2
    match h : allS w, hne, he2 with
    | [x], _, _ => exact ⟨x, rfl⟩
  rw [hx] at hl
  have hxm : x ∈ allS w := by rw [hx]; simp
  obtain ⟨-, -, hxa, hxb0, -⟩ := allS_works hxm
  obtain ⟨m, hm, -, hok, hwm⟩ := all_made hxm
  have hr : mendR w = (m.readings, 0) := by rw [mendR, if_pos he1, hl]; simp [hm]
  have hsp : mendSp w = sparR (repOf x) := by unfold mendSp; rw [hx]
  refine con_of follows_mixed Try.func20 rfl (by simp only [List.length_cons, List.length_nil, Try.ntmps20]; omega) (by kernel_rfl) rfl ?_
  refine Exec.reg ?_
  iterate 3 (refine Run.op (by simp only [go_sem, he1, hl, hr, hwm, hsp] <;> rfl) (by simp only [go_sem] <;> rfl) ?_)
  refine Run.nil ?_
  refine Exec.reg ?_
  refine Run.op (by simp only [go_sem, he1, hl, hr, hwm, hsp] <;> rfl) (by simp only [go_sem] <;> rfl) ?_
  refine Run.cal (c_card_Explain w h1 h2 h20) (by simp only [go_sem]) (by simp only [go_sem, he1, hl, hr, hwm, hsp] <;> rfl) (by exact ⟨by first | exact WkR.pure rfl | exact WkR.nil _ | exact WkR.int (by first | omega | (simp; done) | (simp; omega)), trivial⟩) (fr0) (by simp only [go_sem, he1, hl, hr, hwm, hsp] <;> rfl) ?_
  iterate 5 (refine Run.op (by simp only [go_sem, he1, hl, hr, hwm, hsp] <;> rfl) (by simp only [go_sem] <;> rfl) ?_)
  refine Run.nil ?_
  refine Exec.blk ?_
  refine Exec.reg ?_
  iterate 3 (refine Run.op (by simp only [go_sem, he1, hl, hr, hwm, hsp] <;> rfl) (by simp only [go_sem] <;> rfl) ?_)
  refine Run.nil ?_
  refine Exec.cnd (by simp only [go_sem, he1, hl, hr, hwm, hsp] <;> rfl) (fun hb11 => ?_) (fun hb11 => ?_)
  · skip
    exact absurd hb11 (by simp)
  · skip
    refine Exec.reg ?_
    iterate 4 (refine Run.op (by simp only [go_sem, he1, hl, hr, hwm, hsp] <;> rfl) (by simp only [go_sem] <;> rfl) ?_)
    refine Run.nil ?_
    refine Exec.cnd (by simp only [go_sem, he1, hl, hr, hwm, hsp] <;> rfl) (fun hb15 => ?_) (fun hb15 => ?_)
    · skip
      exact absurd hb15 (by simp)
    · skip
      refine BlkK.nrm ?_
      refine Exec.opk 11 ?_
      refine OpenK.op (by simp only [go_sem, he1, hl, hr, hwm, hsp] <;> rfl) (by simp only [go_sem] <;> rfl) (by simp only [go_sem] <;> rfl) ?_
      refine OpenK.op (by simp only [go_sem, he1, hl, hr, hwm, hsp] <;> rfl) (by simp only [go_sem] <;> rfl) (by simp only [go_sem] <;> rfl) ?_
      refine OpenK.op (by simp only [go_sem, he1, hl, hr, hwm, hsp]; (try simp (disch := omega) only [if_pos]); (try simp only [go_sem, he1, hl, hr, hwm, hsp])<;> rfl) (by simp only [go_sem] <;> rfl) (by simp only [go_sem] <;> rfl) ?_
      refine OpenK.op (by simp only [go_sem, he1, hl, hr, hwm, hsp] <;> rfl) (by simp only [go_sem] <;> rfl) (by simp only [go_sem] <;> rfl) ?_
      refine OpenK.cal (c_card_repairOf x hxa hxb0) (by simp only [go_sem]) (by simp only [go_sem, he1, hl, hr, hwm, hsp] <;> rfl) (by exact ⟨by first | exact WkR.pure rfl | exact WkR.nil _ | exact WkR.int (by first | omega | (simp; done) | (simp; omega)), trivial⟩) (fr0) (by simp only [go_sem, he1, hl, hr, hwm, hsp] <;> rfl) (by simp only [go_sem] <;> rfl) (by simp only [go_sem] <;> rfl) ?_
      refine OpenK.cal (c_card_with_own w (repOf x) h1 h2 hw hok) (by simp only [go_sem]) (by simp only [go_sem, he1, hl, hr, hwm, hsp] <;> rfl) (by exact ⟨by first | exact WkR.pure rfl | exact WkR.nil _ | exact WkR.int (by first | omega | (simp; done) | (simp; omega)), by first | exact WkR.pure rfl | exact WkR.nil _ | exact WkR.int (by first | omega | (simp; done) | (simp; omega)), trivial⟩) (fr1 (by simp only [go_sem] <;> rfl)) (by simp only [go_sem, he1, hl, hr, hwm, hsp] <;> rfl) (by simp only [go_sem] <;> rfl) (by simp only [go_sem] <;> rfl) ?_
      refine OpenK.op (by simp only [go_sem, he1, hl, hr, hwm, hsp]; (try simp (disch := omega) only [if_pos]); (try simp only [go_sem, he1, hl, hr, hwm, hsp])<;> rfl) (by simp only [go_sem] <;> rfl) (by simp only [go_sem] <;> rfl) ?_
      refine OpenK.op (by simp only [go_sem, he1, hl, hr, hwm, hsp] <;> rfl) (by simp only [go_sem] <;> rfl) (by simp only [go_sem] <;> rfl) ?_
      refine OpenK.op (by simp only [go_sem, he1, hl, hr, hwm, hsp] <;> rfl) (by simp only [go_sem] <;> rfl) (by simp only [go_sem] <;> rfl) ?_
      refine OpenK.nil (OpenE.fin (by decide +kernel) (by decide +kernel) ?_)
      exact Ends.fin [25009] (rs := [.tmp 2, .tmp 3]) rfl (by simp only [go_sem, he1, hl, hr, hwm, hsp] <;> rfl) (by simp only [go_sem, he1, hl, hr, hwm, hsp] <;> first | rfl | ((repeat' (first | with_reducible_and_instances rfl | refine st_eq ?_ ?_ ?_ | refine ret_eq ?_ | refine tup_eq ?_ | refine tm_eq ?_ ?_ | refine arr_eq ?_ | refine cells_eq ?_ | refine val_eq ?_ | refine ls_eq ?_ ?_ | refine own_eq ?_ ?_ | refine sl_eq ?_ | refine b_eq ?_ | (refine i_eq ?_; omega))); done))

end Go.Mw
namespace Go.Mw
open Go.Proofs
def markA (l : List Repair) (k : Nat) : List Repair := (l.take k).map (fun x => { x with a := -1 }) ++ l.drop k
def markS (l : List Reading) (k : Nat) : List Reading := (l.take k).map (fun x => { x with shows := -1 }) ++ l.drop k
theorem mark_get {α : Type} (f : α → α) {l : List α} {k : Nat} {x : α} (h : l[k]? = some x) : ((l.take k).map f ++ l.drop k)[k]? = some x := by
  have hk := (List.getElem?_eq_some_iff.1 h).1
  rw [List.getElem?_append_right (by simp; omega), List.getElem?_drop]
  rw [show k + (k - ((l.take k).map f).length) = k by simp; omega]; exact h
theorem mark_set {α : Type} (f : α → α) {l : List α} {k : Nat} {x : α} (h : l[k]? = some x) : (l.take (k + 1)).map f ++ l.drop (k + 1) = ((l.take k).map f ++ l.drop k).set k (f x) := by
  have hk := (List.getElem?_eq_some_iff.1 h).1
  rw [take_succ' h, drop_get h, List.set_append_right _ _ (by simp; exact Nat.min_le_left _ _), List.map_append]
  rw [show k - ((l.take k).map f).length = 0 by simp; omega]
  simp
theorem markA_len (l : List Repair) {k : Nat} (h : k ≤ l.length) : (markA l k).length = l.length := by unfold markA; simp; omega
theorem markS_len (l : List Reading) {k : Nat} (h : k ≤ l.length) : (markS l k).length = l.length := by unfold markS; simp; omega
theorem markA_zero (l : List Repair) : markA l 0 = l := by unfold markA; simp
theorem markS_zero (l : List Reading) : markS l 0 = l := by unfold markS; simp
theorem take_map_len {α β : Type} (f : α → β) (l : List α) : (l.map f).take l.length = l.map f := List.take_of_length_le (by simp)
theorem take_map_app {α β : Type} (f : α → β) (l : List α) (m : List β) : (l.map f ++ m).take l.length = l.map f := by
  have := List.take_left (l₁ := l.map f) (l₂ := m)
  rw [List.length_map] at this; exact this
theorem al_sp (w : Walk) : ∀ y ∈ mendSp w, y.length = 3 := by
  unfold mendSp
  split
  · unfold sparR
    split <;> simp
  · simp
theorem mend_expl {w : Walk} (h : (mendR w).2 = 0) : (explainR w).2 = 0 := by
  unfold mendR at h
  split at h
  · assumption
  · exact h
theorem mend_no {w : Walk} (h : ¬ (mendR w).2 = 0) : (mendR w).1 = [] := by
  unfold mendR at h ⊢
  split
  · rename_i he
    rw [if_pos he] at h
    split
    · rfl
    · rename_i x hx; rw [hx] at h; simp at h
    · rfl
  · rfl
theorem expl_no2 {w : Walk} (h : ¬ (explainR w).2 = 0) : (explainR w).1 = [] := by
  unfold explainR at h ⊢
  split
  · rename_i hw
    rw [if_pos hw] at h
    split
    · rfl
    · rename_i hf
      rw [if_neg hf] at h
      split
      · rfl
      · rename_i ha; rw [if_neg ha] at h; simp at h
  · rfl
set_option maxRecDepth 20000 in
set_option maxHeartbeats 32000000 in
/-- meterworks/meterworkslaw12.CardOwns -/
theorem c_law_CardOwns_0 (w : Walk) (house day : Int) (he : (explainR w).2 = 0) (hm : (mendR w).2 = 0) : Contract Try.prog 11 [walkV w, .int house, .int day] (.bool true) [] := by
  have hle := len_expl w
  have hsp3 := al_sp w
  refine con_of follows_mixed Try.func11 rfl (by simp only [List.length_cons, List.length_nil, Try.ntmps11]; omega) (by kernel_rfl) rfl ?_
  refine Exec.reg ?_
  iterate 2 (refine Run.op (by simp only [go_sem, decide_true, beq_self_eq_true, List.length_map, List.length_append, Nat.add_zero, Nat.zero_add, he, hm] <;> rfl) (by simp only [go_sem] <;> rfl) ?_)
  refine Run.nil ?_
  refine Exec.assocS ?_
  refine Exec.reg ?_
  refine Run.op (by simp only [go_sem, decide_true, beq_self_eq_true, List.length_map, List.length_append, Nat.add_zero, Nat.zero_add, he, hm] <;> rfl) (by simp only [go_sem] <;> rfl) ?_
  refine Run.cal (c_law_great w 12) (by simp only [go_sem]) (by simp only [go_sem, decide_true, beq_self_eq_true, List.length_map, List.length_append, Nat.add_zero, Nat.zero_add, he, hm] <;> rfl) (by exact ⟨by first | exact WkR.pure rfl | exact WkR.nil _ | exact WkR.int (by first | omega | (simp; done) | (simp; omega)), by first | exact WkR.pure rfl | exact WkR.nil _ | exact WkR.int (by first | omega | (simp; done) | (simp; omega)), trivial⟩) (fr0) (by simp only [go_sem, decide_true, beq_self_eq_true, List.length_map, List.length_append, Nat.add_zero, Nat.zero_add, he, hm] <;> rfl) ?_
  refine Run.nil ?_
  refine Exec.cndS (by simp only [go_sem, decide_true, beq_self_eq_true, List.length_map, List.length_append, Nat.add_zero, Nat.zero_add, he, hm] <;> rfl) (fun hb23 => ?_) (fun hb23 => ?_)
  · skip
    refine Exec.assocS ?_
    refine Exec.reg ?_
    refine Run.cal (c_law_alive) (by simp only [go_sem]) (by simp only [go_sem, decide_true, beq_self_eq_true, List.length_map, List.length_append, Nat.add_zero, Nat.zero_add, he, hm] <;> rfl) (by exact trivial) (fr0) (by simp only [go_sem, decide_true, beq_self_eq_true, List.length_map, List.length_append, Nat.add_zero, Nat.zero_add, he, hm] <;> rfl) ?_
    refine Run.op (by simp only [go_sem, decide_true, beq_self_eq_true, List.length_map, List.length_append, Nat.add_zero, Nat.zero_add, he, hm] <;> rfl) (by simp only [go_sem] <;> rfl) ?_
    refine Run.nil ?_
    refine Exec.retS ?_
    exact Ends.fin [] (rs := [.tmp 6]) rfl (by simp only [go_sem, decide_true, beq_self_eq_true, List.length_map, List.length_append, Nat.add_zero, Nat.zero_add, he, hm] <;> rfl) (by simp only [go_sem, decide_true, beq_self_eq_true, List.length_map, List.length_append, Nat.add_zero, Nat.zero_add, he, hm] <;> first | rfl | ((repeat' (first | with_reducible_and_instances rfl | refine st_eq ?_ ?_ ?_ | refine ret_eq ?_ | refine tup_eq ?_ | refine tm_eq ?_ ?_ | refine arr_eq ?_ | refine cells_eq ?_ | refine val_eq ?_ | refine ls_eq ?_ ?_ | refine own_eq ?_ ?_ | refine sl_eq ?_ | refine b_eq ?_ | (refine i_eq ?_; omega))); done))
  · skip
    have hg := great_no hb23
    have h1 : w.rates.length ≤ 1000 := by omega
    have h2 : w.readings.length ≤ 1000 := by omega
    have h20 := h20_great hb23 (by omega)
    have hlm := len_mend h2
    refine Exec.skipS ?_
    refine Exec.opk 12 ?_
    refine OpenK.op (by simp only [go_sem, decide_true, beq_self_eq_true, List.length_map, List.length_append, Nat.add_zero, Nat.zero_add, he, hm] <;> rfl) (by simp only [go_sem] <;> rfl) (by simp only [go_sem] <;> rfl) ?_
    refine OpenK.op (by simp only [go_sem, decide_true, beq_self_eq_true, List.length_map, List.length_append, Nat.add_zero, Nat.zero_add, he, hm] <;> rfl) (by simp only [go_sem] <;> rfl) (by simp only [go_sem] <;> rfl) ?_
    refine OpenK.op (by simp only [go_sem, decide_true, beq_self_eq_true, List.length_map, List.length_append, Nat.add_zero, Nat.zero_add, he, hm] <;> rfl) (by simp only [go_sem] <;> rfl) (by simp only [go_sem] <;> rfl) ?_
    refine OpenK.op (by simp only [go_sem, decide_true, beq_self_eq_true, List.length_map, List.length_append, Nat.add_zero, Nat.zero_add, he, hm]; (try simp (disch := omega) only [if_pos]); (try simp only [go_sem, decide_true, beq_self_eq_true, List.length_map, List.length_append, Nat.add_zero, Nat.zero_add, he, hm]) <;> first | (refine ite_run ⟨by (try simp only [List.length_append, List.length_drop, List.length_take, List.length_map, List.length_cons, List.length_nil, List.length_replicate, List.length_set, List.length_range, Nat.zero_add]); omega, by (try simp only [List.length_append, List.length_drop, List.length_take, List.length_map, List.length_cons, List.length_nil, List.length_replicate, List.length_set, List.length_range, Nat.zero_add]); omega, by repeat (first | exact al_nil | assumption | refine al_app ?_ ?_ | refine al_drop ?_ | refine al_take ?_ | exact al_map (fun _ => rfl) | exact al_rep rfl | refine al_cons rfl ?_)⟩ ?_; simp only [go_sem, decide_true, beq_self_eq_true, List.length_map, List.length_append, Nat.add_zero, Nat.zero_add, he, hm] <;> rfl) | (refine ite_run ⟨by (try simp only [List.length_append, List.length_drop, List.length_take, List.length_map, List.length_cons, List.length_nil, List.length_replicate, List.length_set, List.length_range, Nat.zero_add]); omega, by repeat (first | exact al_nil | assumption | refine al_app ?_ ?_ | refine al_drop ?_ | refine al_take ?_ | exact al_map (fun _ => rfl) | exact al_rep rfl | refine al_cons rfl ?_)⟩ ?_; simp only [go_sem, decide_true, beq_self_eq_true, List.length_map, List.length_append, Nat.add_zero, Nat.zero_add, he, hm] <;> rfl) | rfl) (by simp only [go_sem] <;> rfl) (by simp only [go_sem] <;> rfl) ?_
    refine OpenK.op (by simp only [go_sem, decide_true, beq_self_eq_true, List.length_map, List.length_append, Nat.add_zero, Nat.zero_add, he, hm] <;> rfl) (by simp only [go_sem] <;> rfl) (by simp only [go_sem] <;> rfl) ?_
    refine OpenK.op (by simp only [go_sem, decide_true, beq_self_eq_true, List.length_map, List.length_append, Nat.add_zero, Nat.zero_add, he, hm] <;> rfl) (by simp only [go_sem] <;> rfl) (by simp only [go_sem] <;> rfl) ?_
    refine OpenK.op (by simp only [go_sem, decide_true, beq_self_eq_true, List.length_map, List.length_append, Nat.add_zero, Nat.zero_add, he, hm] <;> rfl) (by simp only [go_sem] <;> rfl) (by simp only [go_sem] <;> rfl) ?_
    refine OpenK.op (by simp only [go_sem, decide_true, beq_self_eq_true, List.length_map, List.length_append, Nat.add_zero, Nat.zero_add, he, hm]; (try simp (disch := omega) only [if_pos]); (try simp only [go_sem, decide_true, beq_self_eq_true, List.length_map, List.length_append, Nat.add_zero, Nat.zero_add, he, hm]) <;> first | (refine ite_run ⟨by (try simp only [List.length_append, List.length_drop, List.length_take, List.length_map, List.length_cons, List.length_nil, List.length_replicate, List.length_set, List.length_range, Nat.zero_add]); omega, by (try simp only [List.length_append, List.length_drop, List.length_take, List.length_map, List.length_cons, List.length_nil, List.length_replicate, List.length_set, List.length_range, Nat.zero_add]); omega, by repeat (first | exact al_nil | assumption | refine al_app ?_ ?_ | refine al_drop ?_ | refine al_take ?_ | exact al_map (fun _ => rfl) | exact al_rep rfl | refine al_cons rfl ?_)⟩ ?_; simp only [go_sem, decide_true, beq_self_eq_true, List.length_map, List.length_append, Nat.add_zero, Nat.zero_add, he, hm] <;> rfl) | (refine ite_run ⟨by (try simp only [List.length_append, List.length_drop, List.length_take, List.length_map, List.length_cons, List.length_nil, List.length_replicate, List.length_set, List.length_range, Nat.zero_add]); omega, by repeat (first | exact al_nil | assumption | refine al_app ?_ ?_ | refine al_drop ?_ | refine al_take ?_ | exact al_map (fun _ => rfl) | exact al_rep rfl | refine al_cons rfl ?_)⟩ ?_; simp only [go_sem, decide_true, beq_self_eq_true, List.length_map, List.length_append, Nat.add_zero, Nat.zero_add, he, hm] <;> rfl) | rfl) (by simp only [go_sem] <;> rfl) (by simp only [go_sem] <;> rfl) ?_
    refine OpenK.op (by simp only [go_sem, decide_true, beq_self_eq_true, List.length_map, List.length_append, Nat.add_zero, Nat.zero_add, he, hm] <;> rfl) (by simp only [go_sem] <;> rfl) (by simp only [go_sem] <;> rfl) ?_
    refine OpenK.op (by simp only [go_sem, decide_true, beq_self_eq_true, List.length_map, List.length_append, Nat.add_zero, Nat.zero_add, he, hm] <;> rfl) (by simp only [go_sem] <;> rfl) (by simp only [go_sem] <;> rfl) ?_
    refine OpenK.nil (OpenE.fin (by decide +kernel) (by decide +kernel) ?_)
    refine Exec.reg ?_
    refine Run.frz 25 (by simp only [go_sem, take_map_len, take_map_app] <;> rfl) ?_
    refine Run.frz 29 (by simp only [go_sem, take_map_len, take_map_app] <;> rfl) ?_
    refine Run.op (by simp only [go_sem, decide_true, beq_self_eq_true, List.length_map, List.length_append, Nat.add_zero, Nat.zero_add, he, hm] <;> rfl) (by simp only [go_sem] <;> rfl) ?_
    refine Run.cal (c_card_Explain_own w h1 h2 h20 he) (by simp only [go_sem]) (by simp only [go_sem, decide_true, beq_self_eq_true, List.length_map, List.length_append, Nat.add_zero, Nat.zero_add, he, hm] <;> rfl) (by exact ⟨by first | exact WkR.pure rfl | exact WkR.nil _ | exact WkR.int (by first | omega | (simp; done) | (simp; omega)), trivial⟩) (fr1 (by simp only [go_sem] <;> rfl)) (by simp only [go_sem, decide_true, beq_self_eq_true, List.length_map, List.length_append, Nat.add_zero, Nat.zero_add, he, hm] <;> rfl) ?_
    iterate 5 (refine Run.op (by simp only [go_sem, decide_true, beq_self_eq_true, List.length_map, List.length_append, Nat.add_zero, Nat.zero_add, he, hm] <;> rfl) (by simp only [go_sem] <;> rfl) ?_)
    refine Run.nil ?_
    refine Exec.reg ?_
    iterate 2 (refine Run.op (by simp only [go_sem, decide_true, beq_self_eq_true, List.length_map, List.length_append, Nat.add_zero, Nat.zero_add, he, hm] <;> rfl) (by simp only [go_sem] <;> rfl) ?_)
    refine Run.op (by simp only [go_sem, decide_true, beq_self_eq_true, List.length_map, List.length_append, Nat.add_zero, Nat.zero_add, he, hm]; (try simp (disch := omega) only [if_pos]); (try simp only [go_sem, decide_true, beq_self_eq_true, List.length_map, List.length_append, Nat.add_zero, Nat.zero_add, he, hm]) <;> first | (refine ite_run ⟨by (try simp only [List.length_append, List.length_drop, List.length_take, List.length_map, List.length_cons, List.length_nil, List.length_replicate, List.length_set, List.length_range, Nat.zero_add]); omega, by (try simp only [List.length_append, List.length_drop, List.length_take, List.length_map, List.length_cons, List.length_nil, List.length_replicate, List.length_set, List.length_range, Nat.zero_add]); omega, by repeat (first | exact al_nil | assumption | refine al_app ?_ ?_ | refine al_drop ?_ | refine al_take ?_ | exact al_map (fun _ => rfl) | exact al_rep rfl | refine al_cons rfl ?_)⟩ ?_; simp only [go_sem, decide_true, beq_self_eq_true, List.length_map, List.length_append, Nat.add_zero, Nat.zero_add, he, hm] <;> rfl) | (refine ite_run ⟨by (try simp only [List.length_append, List.length_drop, List.length_take, List.length_map, List.length_cons, List.length_nil, List.length_replicate, List.length_set, List.length_range, Nat.zero_add]); omega, by repeat (first | exact al_nil | assumption | refine al_app ?_ ?_ | refine al_drop ?_ | refine al_take ?_ | exact al_map (fun _ => rfl) | exact al_rep rfl | refine al_cons rfl ?_)⟩ ?_; simp only [go_sem, decide_true, beq_self_eq_true, List.length_map, List.length_append, Nat.add_zero, Nat.zero_add, he, hm] <;> rfl) | rfl) (by simp only [go_sem] <;> rfl) ?_
    refine Run.op (by simp only [go_sem, decide_true, beq_self_eq_true, List.length_map, List.length_append, Nat.add_zero, Nat.zero_add, he, hm] <;> rfl) (by simp only [go_sem] <;> rfl) ?_
    refine Run.nil ?_
    refine Exec.assocS ?_
    refine Exec.reg ?_
    refine Run.frz 38 (by simp only [go_sem, take_map_len, take_map_app] <;> rfl) ?_
    iterate 3 (refine Run.op (by simp only [go_sem, decide_true, beq_self_eq_true, List.length_map, List.length_append, Nat.add_zero, Nat.zero_add, he, hm] <;> rfl) (by simp only [go_sem] <;> rfl) ?_)
    refine Run.nil ?_
    refine Exec.blk ?_
    refine Exec.forA [1, 2, 3, 7, 8, 9, 10, 11, 42, 43] [3, 55000] ((explainR w).1.length) (fun k => [.slot 43 (.int k), .obj 55000 (.arr 52 4 ((markA (explainR w).1 k).map encRepair))]) (fun _ => True) (fun k => by simp only [go_sem] <;> rfl) (by simp only [go_sem, decide_true, beq_self_eq_true, List.length_map, List.length_append, Nat.add_zero, Nat.zero_add, he, hm, markA_zero, Int.natCast_zero] <;> rfl) ?_ (fun k hk hX => ?_)
    · trivial
    · skip
      refine Exec.reg ?_
      refine Run.op (by simp only [go_sem, decide_true, beq_self_eq_true, List.length_map, List.length_append, Nat.add_zero, Nat.zero_add, he, hm] <;> rfl) (by simp only [go_sem] <;> rfl) ?_
      refine Run.nil ?_
      refine Exec.cndS (by simp only [go_sem, decide_true, beq_self_eq_true, List.length_map, List.length_append, Nat.add_zero, Nat.zero_add, he, hm] <;> rfl) (fun hb44 => ?_) (fun hb44 => ?_)
      · skip
        have hlt := lt_of_dec hb44
        obtain ⟨x, hx⟩ : ∃ x, (explainR w).1[k]? = some x := ⟨_, List.getElem?_eq_getElem hlt⟩
        have hq : (markA (explainR w).1 k)[k]? = some x := mark_get _ hx
        have hs : markA (explainR w).1 (k + 1) = (markA (explainR w).1 k).set k { x with a := -1 } := mark_set _ hx
        have hml := markA_len (explainR w).1 hk
        refine Exec.skipS ?_
        refine Exec.blk ?_
        refine Exec.reg ?_
        iterate 2 (refine Run.op (by simp only [go_sem, decide_true, beq_self_eq_true, List.length_map, List.length_append, Nat.add_zero, Nat.zero_add, he, hm, hq, hml] <;> rfl) (by simp only [go_sem] <;> rfl) ?_)
        refine Run.nil ?_
        refine Exec.reg1 ?_
        iterate 2 (refine Run.op (by simp only [go_sem, decide_true, beq_self_eq_true, List.length_map, List.length_append, Nat.add_zero, Nat.zero_add, he, hm, hq, hml] <;> rfl) (by simp only [go_sem] <;> rfl) ?_)
        refine Run.op (by simp only [go_sem, decide_true, beq_self_eq_true, List.length_map, List.length_append, Nat.add_zero, Nat.zero_add, he, hm, hq, hml]; (try simp (disch := omega) only [if_pos]); (try simp only [go_sem, decide_true, beq_self_eq_true, List.length_map, List.length_append, Nat.add_zero, Nat.zero_add, he, hm, hq, hml])<;> rfl) (by simp only [go_sem] <;> rfl) ?_
        iterate 2 (refine Run.op (by simp only [go_sem, decide_true, beq_self_eq_true, List.length_map, List.length_append, Nat.add_zero, Nat.zero_add, he, hm, hq, hml] <;> rfl) (by simp only [go_sem] <;> rfl) ?_)
        refine Run.nil ?_
        refine BlkK.nrm ?_
        refine Exec.reg1 ?_
        refine Run.op (by simp only [go_sem, decide_true, beq_self_eq_true, List.length_map, List.length_append, Nat.add_zero, Nat.zero_add, he, hm, hq, hml]; (try simp (disch := omega) only [IntWalk.i64_in, if_neg, if_pos])<;> rfl) (by simp only [go_sem] <;> rfl) ?_
        refine Run.op (by simp only [go_sem, decide_true, beq_self_eq_true, List.length_map, List.length_append, Nat.add_zero, Nat.zero_add, he, hm, hq, hml] <;> rfl) (by simp only [go_sem] <;> rfl) ?_
        refine Run.nil ?_
        refine ForK.nxt ?_ ?_ ?_
        · omega
        · exact Ghost.kp [1, 2, 3, 7, 8, 9, 10, 11, 42, 43] [3, 55000] (by simp only [go_sem, decide_true, beq_self_eq_true, List.length_map, List.length_append, Nat.add_zero, Nat.zero_add, he, hm, hq, hml]; first | ((repeat' (first | with_reducible_and_instances rfl | refine st_eq ?_ ?_ ?_ | refine ret_eq ?_ | refine tup_eq ?_ | refine tm_eq ?_ ?_ | refine arr_eq ?_ | refine cells_eq ?_ | refine val_eq ?_ | refine ls_eq ?_ ?_ | refine own_eq ?_ ?_ | refine sl_eq ?_ | refine b_eq ?_ | (refine i_eq ?_; omega))); (all_goals (rw [hs, List.map_set]; rfl))) | rfl)
        · trivial
      · skip
        refine Exec.exitS ?_
        refine ForK.ext ?_
        refine BlkK.hit ?_
        refine Exec.reg ?_
        refine Run.op (by simp only [go_sem, decide_true, beq_self_eq_true, List.length_map, List.length_append, Nat.add_zero, Nat.zero_add, he, hm] <;> rfl) (by simp only [go_sem] <;> rfl) ?_
        refine Run.cal (c_card_Mend_own w h1 h2 h20 hm) (by simp only [go_sem]) (by simp only [go_sem, decide_true, beq_self_eq_true, List.length_map, List.length_append, Nat.add_zero, Nat.zero_add, he, hm] <;> rfl) (by exact ⟨by first | exact WkR.pure rfl | exact WkR.nil _ | exact WkR.int (by first | omega | (simp; done) | (simp; omega)), trivial⟩) (fr1 (by simp only [go_sem] <;> rfl)) (by simp only [go_sem, decide_true, beq_self_eq_true, List.length_map, List.length_append, Nat.add_zero, Nat.zero_add, he, hm] <;> rfl) ?_
        iterate 5 (refine Run.op (by simp only [go_sem, decide_true, beq_self_eq_true, List.length_map, List.length_append, Nat.add_zero, Nat.zero_add, he, hm] <;> rfl) (by simp only [go_sem] <;> rfl) ?_)
        refine Run.nil ?_
        refine Exec.reg ?_
        iterate 2 (refine Run.op (by simp only [go_sem, decide_true, beq_self_eq_true, List.length_map, List.length_append, Nat.add_zero, Nat.zero_add, he, hm] <;> rfl) (by simp only [go_sem] <;> rfl) ?_)
        refine Run.op (by simp only [go_sem, decide_true, beq_self_eq_true, List.length_map, List.length_append, Nat.add_zero, Nat.zero_add, he, hm]; (try simp (disch := omega) only [if_pos]); (try simp only [go_sem, decide_true, beq_self_eq_true, List.length_map, List.length_append, Nat.add_zero, Nat.zero_add, he, hm]) <;> first | (refine ite_run ⟨by (try simp only [List.length_append, List.length_drop, List.length_take, List.length_map, List.length_cons, List.length_nil, List.length_replicate, List.length_set, List.length_range, Nat.zero_add]); omega, by (try simp only [List.length_append, List.length_drop, List.length_take, List.length_map, List.length_cons, List.length_nil, List.length_replicate, List.length_set, List.length_range, Nat.zero_add]); omega, by repeat (first | exact al_nil | assumption | refine al_app ?_ ?_ | refine al_drop ?_ | refine al_take ?_ | exact al_map (fun _ => rfl) | exact al_rep rfl | refine al_cons rfl ?_)⟩ ?_; simp only [go_sem, decide_true, beq_self_eq_true, List.length_map, List.length_append, Nat.add_zero, Nat.zero_add, he, hm] <;> rfl) | (refine ite_run ⟨by (try simp only [List.length_append, List.length_drop, List.length_take, List.length_map, List.length_cons, List.length_nil, List.length_replicate, List.length_set, List.length_range, Nat.zero_add]); omega, by repeat (first | exact al_nil | assumption | refine al_app ?_ ?_ | refine al_drop ?_ | refine al_take ?_ | exact al_map (fun _ => rfl) | exact al_rep rfl | refine al_cons rfl ?_)⟩ ?_; simp only [go_sem, decide_true, beq_self_eq_true, List.length_map, List.length_append, Nat.add_zero, Nat.zero_add, he, hm] <;> rfl) | rfl) (by simp only [go_sem] <;> rfl) ?_
        refine Run.op (by simp only [go_sem, decide_true, beq_self_eq_true, List.length_map, List.length_append, Nat.add_zero, Nat.zero_add, he, hm] <;> rfl) (by simp only [go_sem] <;> rfl) ?_
        refine Run.nil ?_
        refine Exec.assocS ?_
        refine Exec.reg ?_
        refine Run.frz 56 (by simp only [go_sem, take_map_len, take_map_app] <;> rfl) ?_
        iterate 3 (refine Run.op (by simp only [go_sem, decide_true, beq_self_eq_true, List.length_map, List.length_append, Nat.add_zero, Nat.zero_add, he, hm] <;> rfl) (by simp only [go_sem] <;> rfl) ?_)
        refine Run.nil ?_
        refine Exec.blk ?_
        refine Exec.forA [1, 2, 3, 7, 8, 10, 11, 13, 14, 15, 60, 61] [3, 79009] ((mendR w).1.length) (fun k => [.slot 61 (.int k), .obj 79009 (.arr 46 3 ((markS (mendR w).1 k).map encReading ++ mendSp w))]) (fun _ => True) (fun k => by simp only [go_sem] <;> rfl) (by simp only [go_sem, decide_true, beq_self_eq_true, List.length_map, List.length_append, Nat.add_zero, Nat.zero_add, he, hm, markS_zero, Int.natCast_zero] <;> rfl) ?_ (fun k hk hX => ?_)
        · trivial
        · skip
          refine Exec.reg ?_
          refine Run.op (by simp only [go_sem, decide_true, beq_self_eq_true, List.length_map, List.length_append, Nat.add_zero, Nat.zero_add, he, hm] <;> rfl) (by simp only [go_sem] <;> rfl) ?_
          refine Run.nil ?_
          refine Exec.cndS (by simp only [go_sem, decide_true, beq_self_eq_true, List.length_map, List.length_append, Nat.add_zero, Nat.zero_add, he, hm] <;> rfl) (fun hb62 => ?_) (fun hb62 => ?_)
          · skip
            have hlt := lt_of_dec hb62
            obtain ⟨x, hx⟩ : ∃ x, (mendR w).1[k]? = some x := ⟨_, List.getElem?_eq_getElem hlt⟩
            have hq : (markS (mendR w).1 k)[k]? = some x := mark_get _ hx
            have hs : markS (mendR w).1 (k + 1) = (markS (mendR w).1 k).set k { x with shows := -1 } := mark_set _ hx
            have hml := markS_len (mendR w).1 hk
            have hkl : k < (markS (mendR w).1 k).length := by omega
            have hq2 : ((markS (mendR w).1 k).map encReading ++ mendSp w)[k]? = some (encReading x) := by rw [List.getElem?_append_left (by simpa using hkl), List.getElem?_map, hq]; rfl
            have hs2 : (markS (mendR w).1 (k + 1)).map encReading ++ mendSp w = ((markS (mendR w).1 k).map encReading ++ mendSp w).set k (encReading { x with shows := -1 }) := by rw [hs, List.map_set, List.set_append_left _ _ (by simpa using hkl)]
            refine Exec.skipS ?_
            refine Exec.blk ?_
            refine Exec.reg ?_
            iterate 2 (refine Run.op (by simp only [go_sem, decide_true, beq_self_eq_true, List.length_map, List.length_append, Nat.add_zero, Nat.zero_add, he, hm, hq2, hml, hs2] <;> rfl) (by simp only [go_sem] <;> rfl) ?_)
            refine Run.nil ?_
            refine Exec.reg1 ?_
            iterate 2 (refine Run.op (by simp only [go_sem, decide_true, beq_self_eq_true, List.length_map, List.length_append, Nat.add_zero, Nat.zero_add, he, hm, hq2, hml, hs2] <;> rfl) (by simp only [go_sem] <;> rfl) ?_)
            refine Run.op (by simp only [go_sem, decide_true, beq_self_eq_true, List.length_map, List.length_append, Nat.add_zero, Nat.zero_add, he, hm, hq2, hml, hs2]; (try simp (disch := omega) only [if_pos]); (try simp only [go_sem, decide_true, beq_self_eq_true, List.length_map, List.length_append, Nat.add_zero, Nat.zero_add, he, hm, hq2, hml, hs2])<;> rfl) (by simp only [go_sem] <;> rfl) ?_
            iterate 2 (refine Run.op (by simp only [go_sem, decide_true, beq_self_eq_true, List.length_map, List.length_append, Nat.add_zero, Nat.zero_add, he, hm, hq2, hml, hs2] <;> rfl) (by simp only [go_sem] <;> rfl) ?_)
            refine Run.nil ?_
            refine BlkK.nrm ?_
            refine Exec.reg1 ?_
            refine Run.op (by simp only [go_sem, decide_true, beq_self_eq_true, List.length_map, List.length_append, Nat.add_zero, Nat.zero_add, he, hm, hq2, hml, hs2]; (try simp (disch := omega) only [IntWalk.i64_in, if_neg, if_pos])<;> rfl) (by simp only [go_sem] <;> rfl) ?_
            refine Run.op (by simp only [go_sem, decide_true, beq_self_eq_true, List.length_map, List.length_append, Nat.add_zero, Nat.zero_add, he, hm, hq2, hml, hs2] <;> rfl) (by simp only [go_sem] <;> rfl) ?_
            refine Run.nil ?_
            refine ForK.nxt ?_ ?_ ?_
            · omega
            · exact Ghost.kp [1, 2, 3, 7, 8, 10, 11, 13, 14, 15, 60, 61] [3, 79009] (by simp only [go_sem, decide_true, beq_self_eq_true, List.length_map, List.length_append, Nat.add_zero, Nat.zero_add, he, hm, hq2, hml, hs2]; first | ((repeat' (first | with_reducible_and_instances rfl | refine st_eq ?_ ?_ ?_ | refine ret_eq ?_ | refine tup_eq ?_ | refine tm_eq ?_ ?_ | refine arr_eq ?_ | refine cells_eq ?_ | refine val_eq ?_ | refine ls_eq ?_ ?_ | refine own_eq ?_ ?_ | refine sl_eq ?_ | refine b_eq ?_ | (refine i_eq ?_; omega))); done) | rfl)
            · trivial
          · skip
            refine Exec.exitS ?_
            refine ForK.ext ?_
            refine BlkK.hit ?_
            refine Exec.reg ?_
            refine Run.op (by simp only [go_sem, decide_true, beq_self_eq_true, List.length_map, List.length_append, Nat.add_zero, Nat.zero_add, he, hm] <;> rfl) (by simp only [go_sem] <;> rfl) ?_
            refine Run.cal (c_card_Misfit w h1 h2 h20) (by simp only [go_sem]) (by simp only [go_sem, decide_true, beq_self_eq_true, List.length_map, List.length_append, Nat.add_zero, Nat.zero_add, he, hm] <;> rfl) (by exact ⟨by first | exact WkR.pure rfl | exact WkR.nil _ | exact WkR.int (by first | omega | (simp; done) | (simp; omega)), trivial⟩) (fr0) (by simp only [go_sem, decide_true, beq_self_eq_true, List.length_map, List.length_append, Nat.add_zero, Nat.zero_add, he, hm] <;> rfl) ?_
            refine Run.nil ?_
            refine Exec.reg ?_
            iterate 3 (refine Run.op (by simp only [go_sem, decide_true, beq_self_eq_true, List.length_map, List.length_append, Nat.add_zero, Nat.zero_add, he, hm] <;> rfl) (by simp only [go_sem] <;> rfl) ?_)
            refine Run.cal (c_card_Shows w house day h1 h2 h20) (by simp only [go_sem]) (by simp only [go_sem, decide_true, beq_self_eq_true, List.length_map, List.length_append, Nat.add_zero, Nat.zero_add, he, hm] <;> rfl) (by exact ⟨by first | exact WkR.pure rfl | exact WkR.nil _ | exact WkR.int (by first | omega | (simp; done) | (simp; omega)), by first | exact WkR.pure rfl | exact WkR.nil _ | exact WkR.int (by first | omega | (simp; done) | (simp; omega)), by first | exact WkR.pure rfl | exact WkR.nil _ | exact WkR.int (by first | omega | (simp; done) | (simp; omega)), trivial⟩) (fr0) (by simp only [go_sem, decide_true, beq_self_eq_true, List.length_map, List.length_append, Nat.add_zero, Nat.zero_add, he, hm] <;> rfl) ?_
            refine Run.nil ?_
            refine Exec.reg ?_
            refine Run.op (by simp only [go_sem, decide_true, beq_self_eq_true, List.length_map, List.length_append, Nat.add_zero, Nat.zero_add, he, hm] <;> rfl) (by simp only [go_sem] <;> rfl) ?_
            refine Run.cal (c_card_Explain w h1 h2 h20) (by simp only [go_sem]) (by simp only [go_sem, decide_true, beq_self_eq_true, List.length_map, List.length_append, Nat.add_zero, Nat.zero_add, he, hm] <;> rfl) (by exact ⟨by first | exact WkR.pure rfl | exact WkR.nil _ | exact WkR.int (by first | omega | (simp; done) | (simp; omega)), trivial⟩) (fr0) (by simp only [go_sem, decide_true, beq_self_eq_true, List.length_map, List.length_append, Nat.add_zero, Nat.zero_add, he, hm] <;> rfl) ?_
            iterate 5 (refine Run.op (by simp only [go_sem, decide_true, beq_self_eq_true, List.length_map, List.length_append, Nat.add_zero, Nat.zero_add, he, hm] <;> rfl) (by simp only [go_sem] <;> rfl) ?_)
            refine Run.nil ?_
            refine Exec.reg ?_
            refine Run.op (by simp only [go_sem, decide_true, beq_self_eq_true, List.length_map, List.length_append, Nat.add_zero, Nat.zero_add, he, hm] <;> rfl) (by simp only [go_sem] <;> rfl) ?_
            refine Run.cal (c_card_Mend w h1 h2 h20) (by simp only [go_sem]) (by simp only [go_sem, decide_true, beq_self_eq_true, List.length_map, List.length_append, Nat.add_zero, Nat.zero_add, he, hm] <;> rfl) (by exact ⟨by first | exact WkR.pure rfl | exact WkR.nil _ | exact WkR.int (by first | omega | (simp; done) | (simp; omega)), trivial⟩) (fr0) (by simp only [go_sem, decide_true, beq_self_eq_true, List.length_map, List.length_append, Nat.add_zero, Nat.zero_add, he, hm] <;> rfl) ?_
            iterate 5 (refine Run.op (by simp only [go_sem, decide_true, beq_self_eq_true, List.length_map, List.length_append, Nat.add_zero, Nat.zero_add, he, hm] <;> rfl) (by simp only [go_sem] <;> rfl) ?_)
            refine Run.nil ?_
            refine Exec.assocS ?_
            refine Exec.reg ?_
            iterate 3 (refine Run.op (by simp only [go_sem, decide_true, beq_self_eq_true, List.length_map, List.length_append, Nat.add_zero, Nat.zero_add, he, hm] <;> rfl) (by simp only [go_sem] <;> rfl) ?_)
            refine Run.nil ?_
            refine Exec.blk ?_
            refine Exec.forA [3, 7, 8, 10, 11, 14, 15, 17, 18, 19, 20, 86, 87] [3] (w.rates.length) (fun k => [.slot 87 (.int k)]) (fun _ => True) (fun k => by simp only [go_sem] <;> rfl) (by simp only [go_sem, decide_true, beq_self_eq_true, List.length_map, List.length_append, Nat.add_zero, Nat.zero_add, he, hm] <;> rfl) ?_ (fun k hk hX => ?_)
            · trivial
            · skip
              refine Exec.reg ?_
              refine Run.op (by simp only [go_sem, decide_true, beq_self_eq_true, List.length_map, List.length_append, Nat.add_zero, Nat.zero_add, he, hm] <;> rfl) (by simp only [go_sem] <;> rfl) ?_
              refine Run.nil ?_
              refine Exec.cndS (by simp only [go_sem, decide_true, beq_self_eq_true, List.length_map, List.length_append, Nat.add_zero, Nat.zero_add, he, hm] <;> rfl) (fun hb88 => ?_) (fun hb88 => ?_)
              · skip
                have hlt := lt_of_dec hb88
                have hs := rt_get hlt
                refine Exec.skipS ?_
                refine Exec.blk ?_
                refine Exec.reg ?_
                iterate 2 (refine Run.op (by simp only [go_sem, decide_true, beq_self_eq_true, List.length_map, List.length_append, Nat.add_zero, Nat.zero_add, he, hm, hs] <;> rfl) (by simp only [go_sem] <;> rfl) ?_)
                refine Run.nil ?_
                refine Exec.opk 12 ?_
                refine OpenK.op (by simp only [go_sem, decide_true, beq_self_eq_true, List.length_map, List.length_append, Nat.add_zero, Nat.zero_add, he, hm, hs] <;> rfl) (by simp only [go_sem] <;> rfl) (by simp only [go_sem] <;> rfl) ?_
                refine OpenK.op (by simp only [go_sem, decide_true, beq_self_eq_true, List.length_map, List.length_append, Nat.add_zero, Nat.zero_add, he, hm, hs] <;> rfl) (by simp only [go_sem] <;> rfl) (by simp only [go_sem] <;> rfl) ?_
                refine OpenK.op (by simp only [go_sem, decide_true, beq_self_eq_true, List.length_map, List.length_append, Nat.add_zero, Nat.zero_add, he, hm, hs]; (try simp (disch := omega) only [if_pos]); (try simp only [go_sem, decide_true, beq_self_eq_true, List.length_map, List.length_append, Nat.add_zero, Nat.zero_add, he, hm, hs])<;> rfl) (by simp only [go_sem] <;> rfl) (by simp only [go_sem] <;> rfl) ?_
                refine OpenK.op (by simp only [go_sem, decide_true, beq_self_eq_true, List.length_map, List.length_append, Nat.add_zero, Nat.zero_add, he, hm, hs] <;> rfl) (by simp only [go_sem] <;> rfl) (by simp only [go_sem] <;> rfl) ?_
                refine OpenK.op (by simp only [go_sem, decide_true, beq_self_eq_true, List.length_map, List.length_append, Nat.add_zero, Nat.zero_add, he, hm, hs] <;> rfl) (by simp only [go_sem] <;> rfl) (by simp only [go_sem] <;> rfl) ?_
                refine OpenK.op (by simp only [go_sem, decide_true, beq_self_eq_true, List.length_map, List.length_append, Nat.add_zero, Nat.zero_add, he, hm, hs] <;> rfl) (by simp only [go_sem] <;> rfl) (by simp only [go_sem] <;> rfl) ?_
                refine OpenK.op (by simp only [go_sem, decide_true, beq_self_eq_true, List.length_map, List.length_append, Nat.add_zero, Nat.zero_add, he, hm, hs] <;> rfl) (by simp only [go_sem] <;> rfl) (by simp only [go_sem] <;> rfl) ?_
                refine OpenK.op (by simp only [go_sem, decide_true, beq_self_eq_true, List.length_map, List.length_append, Nat.add_zero, Nat.zero_add, he, hm, hs]; (try simp (disch := omega) only [if_pos]); (try simp only [go_sem, decide_true, beq_self_eq_true, List.length_map, List.length_append, Nat.add_zero, Nat.zero_add, he, hm, hs])<;> rfl) (by simp only [go_sem] <;> rfl) (by simp only [go_sem] <;> rfl) ?_
                refine OpenK.op (by simp only [go_sem, decide_true, beq_self_eq_true, List.length_map, List.length_append, Nat.add_zero, Nat.zero_add, he, hm, hs] <;> rfl) (by simp only [go_sem] <;> rfl) (by simp only [go_sem] <;> rfl) ?_
                refine OpenK.op (by simp only [go_sem, decide_true, beq_self_eq_true, List.length_map, List.length_append, Nat.add_zero, Nat.zero_add, he, hm, hs] <;> rfl) (by simp only [go_sem] <;> rfl) (by simp only [go_sem] <;> rfl) ?_
                refine OpenK.nil (OpenE.fin (by decide +kernel) (by decide +kernel) ?_)
                refine Exec.cnd (by simp only [go_sem, decide_true, beq_self_eq_true, List.length_map, List.length_append, Nat.add_zero, Nat.zero_add, he, hm, hs] <;> rfl) (fun hb99 => ?_) (fun hb99 => ?_)
                · skip
                  exact absurd hb99 (by simp)
                · skip
                  refine BlkK.nrm ?_
                  refine Exec.reg1 ?_
                  refine Run.op (by simp only [go_sem, decide_true, beq_self_eq_true, List.length_map, List.length_append, Nat.add_zero, Nat.zero_add, he, hm, hs]; (try simp (disch := omega) only [IntWalk.i64_in, if_neg, if_pos])<;> rfl) (by simp only [go_sem] <;> rfl) ?_
                  refine Run.op (by simp only [go_sem, decide_true, beq_self_eq_true, List.length_map, List.length_append, Nat.add_zero, Nat.zero_add, he, hm, hs] <;> rfl) (by simp only [go_sem] <;> rfl) ?_
                  refine Run.nil ?_
                  refine ForK.nxt ?_ ?_ ?_
                  · omega
                  · exact Ghost.kp [3, 7, 8, 10, 11, 14, 15, 17, 18, 19, 20, 86, 87] [3] (by simp only [go_sem, decide_true, beq_self_eq_true, List.length_map, List.length_append, Nat.add_zero, Nat.zero_add, he, hm, hs]; first | ((repeat' (first | with_reducible_and_instances rfl | refine st_eq ?_ ?_ ?_ | refine ret_eq ?_ | refine tup_eq ?_ | refine tm_eq ?_ ?_ | refine arr_eq ?_ | refine cells_eq ?_ | refine val_eq ?_ | refine ls_eq ?_ ?_ | refine own_eq ?_ ?_ | refine sl_eq ?_ | refine b_eq ?_ | (refine i_eq ?_; omega))); done) | rfl)
                  · trivial
              · skip
                refine Exec.exitS ?_
                refine ForK.ext ?_
                refine BlkK.hit ?_
                refine Exec.reg ?_
                iterate 3 (refine Run.op (by simp only [go_sem, decide_true, beq_self_eq_true, List.length_map, List.length_append, Nat.add_zero, Nat.zero_add, he, hm] <;> rfl) (by simp only [go_sem] <;> rfl) ?_)
                refine Run.cal (c_meterworksref12_Readings w.readings w.readings h2 h2) (by simp only [go_sem]) (by simp only [go_sem, decide_true, beq_self_eq_true, List.length_map, List.length_append, Nat.add_zero, Nat.zero_add, he, hm] <;> rfl) (by exact ⟨by first | exact WkR.pure rfl | exact WkR.nil _ | exact WkR.int (by first | omega | (simp; done) | (simp; omega)), by first | exact WkR.pure rfl | exact WkR.nil _ | exact WkR.int (by first | omega | (simp; done) | (simp; omega)), trivial⟩) (fr0) (by simp only [go_sem, decide_true, beq_self_eq_true, List.length_map, List.length_append, Nat.add_zero, Nat.zero_add, he, hm] <;> rfl) ?_
                refine Run.op (by simp only [go_sem, decide_true, beq_self_eq_true, List.length_map, List.length_append, Nat.add_zero, Nat.zero_add, he, hm] <;> rfl) (by simp only [go_sem] <;> rfl) ?_
                refine Run.yes (by simp only [go_sem] <;> rfl) (by simp only [go_sem, decide_true, beq_self_eq_true, List.length_map, List.length_append, Nat.add_zero, Nat.zero_add, he, hm] <;> rfl) (by simp only [go_sem] <;> rfl) ?_
                refine Run.yes (by simp only [go_sem] <;> rfl) (by simp only [go_sem, decide_true, beq_self_eq_true, List.length_map, List.length_append, Nat.add_zero, Nat.zero_add, he, hm] <;> rfl) (by simp only [go_sem] <;> rfl) ?_
                refine Run.calw (by simp only [go_sem] <;> rfl) (c_meterworksref12_Repairs _ _ (len_expl w) (len_expl w)) (by simp only [go_sem]) (by simp only [go_sem, decide_true, beq_self_eq_true, List.length_map, List.length_append, Nat.add_zero, Nat.zero_add, he, hm] <;> rfl) (by simp only [go_sem, decide_true, beq_self_eq_true, List.length_map, List.length_append, Nat.add_zero, Nat.zero_add, he, hm] <;> rfl) (by exact ⟨by first | exact WkR.pure rfl | exact WkR.nil _ | exact WkR.int (by first | omega | (simp; done) | (simp; omega)), by first | exact WkR.pure rfl | exact WkR.nil _ | exact WkR.int (by first | omega | (simp; done) | (simp; omega)), trivial⟩) (fr0) (by simp only [go_sem, decide_true, beq_self_eq_true, List.length_map, List.length_append, Nat.add_zero, Nat.zero_add, he, hm] <;> rfl) ?_
                iterate 2 (refine Run.op (by simp only [go_sem, decide_true, beq_self_eq_true, List.length_map, List.length_append, Nat.add_zero, Nat.zero_add, he, hm] <;> rfl) (by simp only [go_sem] <;> rfl) ?_)
                refine Run.yes (by simp only [go_sem] <;> rfl) (by simp only [go_sem, decide_true, beq_self_eq_true, List.length_map, List.length_append, Nat.add_zero, Nat.zero_add, he, hm] <;> rfl) (by simp only [go_sem] <;> rfl) ?_
                refine Run.yes (by simp only [go_sem] <;> rfl) (by simp only [go_sem, decide_true, beq_self_eq_true, List.length_map, List.length_append, Nat.add_zero, Nat.zero_add, he, hm] <;> rfl) (by simp only [go_sem] <;> rfl) ?_
                refine Run.yes (by simp only [go_sem] <;> rfl) (by simp only [go_sem, decide_true, beq_self_eq_true, List.length_map, List.length_append, Nat.add_zero, Nat.zero_add, he, hm] <;> rfl) (by simp only [go_sem] <;> rfl) ?_
                iterate 2 (refine Run.op (by simp only [go_sem, decide_true, beq_self_eq_true, List.length_map, List.length_append, Nat.add_zero, Nat.zero_add, he, hm] <;> rfl) (by simp only [go_sem] <;> rfl) ?_)
                refine Run.yes (by simp only [go_sem] <;> rfl) (by simp only [go_sem, decide_true, beq_self_eq_true, List.length_map, List.length_append, Nat.add_zero, Nat.zero_add, he, hm] <;> rfl) (by simp only [go_sem] <;> rfl) ?_
                refine Run.yes (by simp only [go_sem] <;> rfl) (by simp only [go_sem, decide_true, beq_self_eq_true, List.length_map, List.length_append, Nat.add_zero, Nat.zero_add, he, hm] <;> rfl) (by simp only [go_sem] <;> rfl) ?_
                refine Run.calw (by simp only [go_sem] <;> rfl) (c_meterworksref12_Readings _ _ (len_mend h2) (len_mend h2)) (by simp only [go_sem]) (by simp only [go_sem, decide_true, beq_self_eq_true, List.length_map, List.length_append, Nat.add_zero, Nat.zero_add, he, hm] <;> rfl) (by simp only [go_sem, decide_true, beq_self_eq_true, List.length_map, List.length_append, Nat.add_zero, Nat.zero_add, he, hm] <;> rfl) (by exact ⟨by first | exact WkR.pure rfl | exact WkR.nil _ | exact WkR.int (by first | omega | (simp; done) | (simp; omega)), by first | exact WkR.pure rfl | exact WkR.nil _ | exact WkR.int (by first | omega | (simp; done) | (simp; omega)), trivial⟩) (fr0) (by simp only [go_sem, decide_true, beq_self_eq_true, List.length_map, List.length_append, Nat.add_zero, Nat.zero_add, he, hm] <;> rfl) ?_
                iterate 2 (refine Run.op (by simp only [go_sem, decide_true, beq_self_eq_true, List.length_map, List.length_append, Nat.add_zero, Nat.zero_add, he, hm] <;> rfl) (by simp only [go_sem] <;> rfl) ?_)
                refine Run.yes (by simp only [go_sem] <;> rfl) (by simp only [go_sem, decide_true, beq_self_eq_true, List.length_map, List.length_append, Nat.add_zero, Nat.zero_add, he, hm] <;> rfl) (by simp only [go_sem] <;> rfl) ?_
                refine Run.yes (by simp only [go_sem] <;> rfl) (by simp only [go_sem, decide_true, beq_self_eq_true, List.length_map, List.length_append, Nat.add_zero, Nat.zero_add, he, hm] <;> rfl) (by simp only [go_sem] <;> rfl) ?_
                refine Run.yes (by simp only [go_sem] <;> rfl) (by simp only [go_sem, decide_true, beq_self_eq_true, List.length_map, List.length_append, Nat.add_zero, Nat.zero_add, he, hm] <;> rfl) (by simp only [go_sem] <;> rfl) ?_
                iterate 2 (refine Run.op (by simp only [go_sem, decide_true, beq_self_eq_true, List.length_map, List.length_append, Nat.add_zero, Nat.zero_add, he, hm] <;> rfl) (by simp only [go_sem] <;> rfl) ?_)
                refine Run.calw (by simp only [go_sem] <;> rfl) (c_law_alive) (by simp only [go_sem]) (by simp only [go_sem, decide_true, beq_self_eq_true, List.length_map, List.length_append, Nat.add_zero, Nat.zero_add, he, hm] <;> rfl) (by simp only [go_sem, decide_true, beq_self_eq_true, List.length_map, List.length_append, Nat.add_zero, Nat.zero_add, he, hm] <;> rfl) (by exact trivial) (fr0) (by simp only [go_sem, decide_true, beq_self_eq_true, List.length_map, List.length_append, Nat.add_zero, Nat.zero_add, he, hm] <;> rfl) ?_
                iterate 2 (refine Run.op (by simp only [go_sem, decide_true, beq_self_eq_true, List.length_map, List.length_append, Nat.add_zero, Nat.zero_add, he, hm] <;> rfl) (by simp only [go_sem] <;> rfl) ?_)
                refine Run.nil ?_
                exact Ends.fin [] (rs := [.tmp 6]) rfl (by simp only [go_sem, decide_true, beq_self_eq_true, List.length_map, List.length_append, Nat.add_zero, Nat.zero_add, he, hm] <;> rfl) (by simp only [go_sem, decide_true, beq_self_eq_true, List.length_map, List.length_append, Nat.add_zero, Nat.zero_add, he, hm] <;> first | rfl | ((repeat' (first | with_reducible_and_instances rfl | refine st_eq ?_ ?_ ?_ | refine ret_eq ?_ | refine tup_eq ?_ | refine tm_eq ?_ ?_ | refine arr_eq ?_ | refine cells_eq ?_ | refine val_eq ?_ | refine ls_eq ?_ ?_ | refine own_eq ?_ ?_ | refine sl_eq ?_ | refine b_eq ?_ | (refine i_eq ?_; omega))); done))

set_option maxRecDepth 20000 in
set_option maxHeartbeats 32000000 in
/-- meterworks/meterworkslaw12.CardOwns -/
theorem c_law_CardOwns_1 (w : Walk) (house day : Int) (he : (explainR w).2 = 0) (hm : ¬ (mendR w).2 = 0) : Contract Try.prog 11 [walkV w, .int house, .int day] (.bool true) [] := by
  have hm1 := mend_no hm
  have hle := len_expl w
  have hsp3 := al_sp w
  refine con_of follows_mixed Try.func11 rfl (by simp only [List.length_cons, List.length_nil, Try.ntmps11]; omega) (by kernel_rfl) rfl ?_
  refine Exec.reg ?_
  iterate 2 (refine Run.op (by simp only [go_sem, decide_true, beq_self_eq_true, List.length_map, List.length_append, Nat.add_zero, Nat.zero_add, he, hm1] <;> rfl) (by simp only [go_sem] <;> rfl) ?_)
  refine Run.nil ?_
  refine Exec.assocS ?_
  refine Exec.reg ?_
  refine Run.op (by simp only [go_sem, decide_true, beq_self_eq_true, List.length_map, List.length_append, Nat.add_zero, Nat.zero_add, he, hm1] <;> rfl) (by simp only [go_sem] <;> rfl) ?_
  refine Run.cal (c_law_great w 12) (by simp only [go_sem]) (by simp only [go_sem, decide_true, beq_self_eq_true, List.length_map, List.length_append, Nat.add_zero, Nat.zero_add, he, hm1] <;> rfl) (by exact ⟨by first | exact WkR.pure rfl | exact WkR.nil _ | exact WkR.int (by first | omega | (simp; done) | (simp; omega)), by first | exact WkR.pure rfl | exact WkR.nil _ | exact WkR.int (by first | omega | (simp; done) | (simp; omega)), trivial⟩) (fr0) (by simp only [go_sem, decide_true, beq_self_eq_true, List.length_map, List.length_append, Nat.add_zero, Nat.zero_add, he, hm1] <;> rfl) ?_
  refine Run.nil ?_
  refine Exec.cndS (by simp only [go_sem, decide_true, beq_self_eq_true, List.length_map, List.length_append, Nat.add_zero, Nat.zero_add, he, hm1] <;> rfl) (fun hb23 => ?_) (fun hb23 => ?_)
  · skip
    refine Exec.assocS ?_
    refine Exec.reg ?_
    refine Run.cal (c_law_alive) (by simp only [go_sem]) (by simp only [go_sem, decide_true, beq_self_eq_true, List.length_map, List.length_append, Nat.add_zero, Nat.zero_add, he, hm1] <;> rfl) (by exact trivial) (fr0) (by simp only [go_sem, decide_true, beq_self_eq_true, List.length_map, List.length_append, Nat.add_zero, Nat.zero_add, he, hm1] <;> rfl) ?_
    refine Run.op (by simp only [go_sem, decide_true, beq_self_eq_true, List.length_map, List.length_append, Nat.add_zero, Nat.zero_add, he, hm1] <;> rfl) (by simp only [go_sem] <;> rfl) ?_
    refine Run.nil ?_
    refine Exec.retS ?_
    exact Ends.fin [] (rs := [.tmp 6]) rfl (by simp only [go_sem, decide_true, beq_self_eq_true, List.length_map, List.length_append, Nat.add_zero, Nat.zero_add, he, hm1] <;> rfl) (by simp only [go_sem, decide_true, beq_self_eq_true, List.length_map, List.length_append, Nat.add_zero, Nat.zero_add, he, hm1] <;> first | rfl | ((repeat' (first | with_reducible_and_instances rfl | refine st_eq ?_ ?_ ?_ | refine ret_eq ?_ | refine tup_eq ?_ | refine tm_eq ?_ ?_ | refine arr_eq ?_ | refine cells_eq ?_ | refine val_eq ?_ | refine ls_eq ?_ ?_ | refine own_eq ?_ ?_ | refine sl_eq ?_ | refine b_eq ?_ | (refine i_eq ?_; omega))); done))
  · skip
    have hg := great_no hb23
    have h1 : w.rates.length ≤ 1000 := by omega
    have h2 : w.readings.length ≤ 1000 := by omega
    have h20 := h20_great hb23 (by omega)
    have hlm := len_mend h2
    refine Exec.skipS ?_
    refine Exec.opk 12 ?_
    refine OpenK.op (by simp only [go_sem, decide_true, beq_self_eq_true, List.length_map, List.length_append, Nat.add_zero, Nat.zero_add, he, hm1] <;> rfl) (by simp only [go_sem] <;> rfl) (by simp only [go_sem] <;> rfl) ?_
    refine OpenK.op (by simp only [go_sem, decide_true, beq_self_eq_true, List.length_map, List.length_append, Nat.add_zero, Nat.zero_add, he, hm1] <;> rfl) (by simp only [go_sem] <;> rfl) (by simp only [go_sem] <;> rfl) ?_
    refine OpenK.op (by simp only [go_sem, decide_true, beq_self_eq_true, List.length_map, List.length_append, Nat.add_zero, Nat.zero_add, he, hm1] <;> rfl) (by simp only [go_sem] <;> rfl) (by simp only [go_sem] <;> rfl) ?_
    refine OpenK.op (by simp only [go_sem, decide_true, beq_self_eq_true, List.length_map, List.length_append, Nat.add_zero, Nat.zero_add, he, hm1]; (try simp (disch := omega) only [if_pos]); (try simp only [go_sem, decide_true, beq_self_eq_true, List.length_map, List.length_append, Nat.add_zero, Nat.zero_add, he, hm1]) <;> first | (refine ite_run ⟨by (try simp only [List.length_append, List.length_drop, List.length_take, List.length_map, List.length_cons, List.length_nil, List.length_replicate, List.length_set, List.length_range, Nat.zero_add]); omega, by (try simp only [List.length_append, List.length_drop, List.length_take, List.length_map, List.length_cons, List.length_nil, List.length_replicate, List.length_set, List.length_range, Nat.zero_add]); omega, by repeat (first | exact al_nil | assumption | refine al_app ?_ ?_ | refine al_drop ?_ | refine al_take ?_ | exact al_map (fun _ => rfl) | exact al_rep rfl | refine al_cons rfl ?_)⟩ ?_; simp only [go_sem, decide_true, beq_self_eq_true, List.length_map, List.length_append, Nat.add_zero, Nat.zero_add, he, hm1] <;> rfl) | (refine ite_run ⟨by (try simp only [List.length_append, List.length_drop, List.length_take, List.length_map, List.length_cons, List.length_nil, List.length_replicate, List.length_set, List.length_range, Nat.zero_add]); omega, by repeat (first | exact al_nil | assumption | refine al_app ?_ ?_ | refine al_drop ?_ | refine al_take ?_ | exact al_map (fun _ => rfl) | exact al_rep rfl | refine al_cons rfl ?_)⟩ ?_; simp only [go_sem, decide_true, beq_self_eq_true, List.length_map, List.length_append, Nat.add_zero, Nat.zero_add, he, hm1] <;> rfl) | rfl) (by simp only [go_sem] <;> rfl) (by simp only [go_sem] <;> rfl) ?_
    refine OpenK.op (by simp only [go_sem, decide_true, beq_self_eq_true, List.length_map, List.length_append, Nat.add_zero, Nat.zero_add, he, hm1] <;> rfl) (by simp only [go_sem] <;> rfl) (by simp only [go_sem] <;> rfl) ?_
    refine OpenK.op (by simp only [go_sem, decide_true, beq_self_eq_true, List.length_map, List.length_append, Nat.add_zero, Nat.zero_add, he, hm1] <;> rfl) (by simp only [go_sem] <;> rfl) (by simp only [go_sem] <;> rfl) ?_
    refine OpenK.op (by simp only [go_sem, decide_true, beq_self_eq_true, List.length_map, List.length_append, Nat.add_zero, Nat.zero_add, he, hm1] <;> rfl) (by simp only [go_sem] <;> rfl) (by simp only [go_sem] <;> rfl) ?_
    refine OpenK.op (by simp only [go_sem, decide_true, beq_self_eq_true, List.length_map, List.length_append, Nat.add_zero, Nat.zero_add, he, hm1]; (try simp (disch := omega) only [if_pos]); (try simp only [go_sem, decide_true, beq_self_eq_true, List.length_map, List.length_append, Nat.add_zero, Nat.zero_add, he, hm1]) <;> first | (refine ite_run ⟨by (try simp only [List.length_append, List.length_drop, List.length_take, List.length_map, List.length_cons, List.length_nil, List.length_replicate, List.length_set, List.length_range, Nat.zero_add]); omega, by (try simp only [List.length_append, List.length_drop, List.length_take, List.length_map, List.length_cons, List.length_nil, List.length_replicate, List.length_set, List.length_range, Nat.zero_add]); omega, by repeat (first | exact al_nil | assumption | refine al_app ?_ ?_ | refine al_drop ?_ | refine al_take ?_ | exact al_map (fun _ => rfl) | exact al_rep rfl | refine al_cons rfl ?_)⟩ ?_; simp only [go_sem, decide_true, beq_self_eq_true, List.length_map, List.length_append, Nat.add_zero, Nat.zero_add, he, hm1] <;> rfl) | (refine ite_run ⟨by (try simp only [List.length_append, List.length_drop, List.length_take, List.length_map, List.length_cons, List.length_nil, List.length_replicate, List.length_set, List.length_range, Nat.zero_add]); omega, by repeat (first | exact al_nil | assumption | refine al_app ?_ ?_ | refine al_drop ?_ | refine al_take ?_ | exact al_map (fun _ => rfl) | exact al_rep rfl | refine al_cons rfl ?_)⟩ ?_; simp only [go_sem, decide_true, beq_self_eq_true, List.length_map, List.length_append, Nat.add_zero, Nat.zero_add, he, hm1] <;> rfl) | rfl) (by simp only [go_sem] <;> rfl) (by simp only [go_sem] <;> rfl) ?_
    refine OpenK.op (by simp only [go_sem, decide_true, beq_self_eq_true, List.length_map, List.length_append, Nat.add_zero, Nat.zero_add, he, hm1] <;> rfl) (by simp only [go_sem] <;> rfl) (by simp only [go_sem] <;> rfl) ?_
    refine OpenK.op (by simp only [go_sem, decide_true, beq_self_eq_true, List.length_map, List.length_append, Nat.add_zero, Nat.zero_add, he, hm1] <;> rfl) (by simp only [go_sem] <;> rfl) (by simp only [go_sem] <;> rfl) ?_
    refine OpenK.nil (OpenE.fin (by decide +kernel) (by decide +kernel) ?_)
    refine Exec.reg ?_
    refine Run.frz 25 (by simp only [go_sem, take_map_len, take_map_app] <;> rfl) ?_
    refine Run.frz 29 (by simp only [go_sem, take_map_len, take_map_app] <;> rfl) ?_
    refine Run.op (by simp only [go_sem, decide_true, beq_self_eq_true, List.length_map, List.length_append, Nat.add_zero, Nat.zero_add, he, hm1] <;> rfl) (by simp only [go_sem] <;> rfl) ?_
    refine Run.cal (c_card_Explain_own w h1 h2 h20 he) (by simp only [go_sem]) (by simp only [go_sem, decide_true, beq_self_eq_true, List.length_map, List.length_append, Nat.add_zero, Nat.zero_add, he, hm1] <;> rfl) (by exact ⟨by first | exact WkR.pure rfl | exact WkR.nil _ | exact WkR.int (by first | omega | (simp; done) | (simp; omega)), trivial⟩) (fr1 (by simp only [go_sem] <;> rfl)) (by simp only [go_sem, decide_true, beq_self_eq_true, List.length_map, List.length_append, Nat.add_zero, Nat.zero_add, he, hm1] <;> rfl) ?_
    iterate 5 (refine Run.op (by simp only [go_sem, decide_true, beq_self_eq_true, List.length_map, List.length_append, Nat.add_zero, Nat.zero_add, he, hm1] <;> rfl) (by simp only [go_sem] <;> rfl) ?_)
    refine Run.nil ?_
    refine Exec.reg ?_
    iterate 2 (refine Run.op (by simp only [go_sem, decide_true, beq_self_eq_true, List.length_map, List.length_append, Nat.add_zero, Nat.zero_add, he, hm1] <;> rfl) (by simp only [go_sem] <;> rfl) ?_)
    refine Run.op (by simp only [go_sem, decide_true, beq_self_eq_true, List.length_map, List.length_append, Nat.add_zero, Nat.zero_add, he, hm1]; (try simp (disch := omega) only [if_pos]); (try simp only [go_sem, decide_true, beq_self_eq_true, List.length_map, List.length_append, Nat.add_zero, Nat.zero_add, he, hm1]) <;> first | (refine ite_run ⟨by (try simp only [List.length_append, List.length_drop, List.length_take, List.length_map, List.length_cons, List.length_nil, List.length_replicate, List.length_set, List.length_range, Nat.zero_add]); omega, by (try simp only [List.length_append, List.length_drop, List.length_take, List.length_map, List.length_cons, List.length_nil, List.length_replicate, List.length_set, List.length_range, Nat.zero_add]); omega, by repeat (first | exact al_nil | assumption | refine al_app ?_ ?_ | refine al_drop ?_ | refine al_take ?_ | exact al_map (fun _ => rfl) | exact al_rep rfl | refine al_cons rfl ?_)⟩ ?_; simp only [go_sem, decide_true, beq_self_eq_true, List.length_map, List.length_append, Nat.add_zero, Nat.zero_add, he, hm1] <;> rfl) | (refine ite_run ⟨by (try simp only [List.length_append, List.length_drop, List.length_take, List.length_map, List.length_cons, List.length_nil, List.length_replicate, List.length_set, List.length_range, Nat.zero_add]); omega, by repeat (first | exact al_nil | assumption | refine al_app ?_ ?_ | refine al_drop ?_ | refine al_take ?_ | exact al_map (fun _ => rfl) | exact al_rep rfl | refine al_cons rfl ?_)⟩ ?_; simp only [go_sem, decide_true, beq_self_eq_true, List.length_map, List.length_append, Nat.add_zero, Nat.zero_add, he, hm1] <;> rfl) | rfl) (by simp only [go_sem] <;> rfl) ?_
    refine Run.op (by simp only [go_sem, decide_true, beq_self_eq_true, List.length_map, List.length_append, Nat.add_zero, Nat.zero_add, he, hm1] <;> rfl) (by simp only [go_sem] <;> rfl) ?_
    refine Run.nil ?_
    refine Exec.assocS ?_
    refine Exec.reg ?_
    refine Run.frz 38 (by simp only [go_sem, take_map_len, take_map_app] <;> rfl) ?_
    iterate 3 (refine Run.op (by simp only [go_sem, decide_true, beq_self_eq_true, List.length_map, List.length_append, Nat.add_zero, Nat.zero_add, he, hm1] <;> rfl) (by simp only [go_sem] <;> rfl) ?_)
    refine Run.nil ?_
    refine Exec.blk ?_
    refine Exec.forA [1, 2, 3, 7, 8, 9, 10, 11, 42, 43] [3, 55000] ((explainR w).1.length) (fun k => [.slot 43 (.int k), .obj 55000 (.arr 52 4 ((markA (explainR w).1 k).map encRepair))]) (fun _ => True) (fun k => by simp only [go_sem] <;> rfl) (by simp only [go_sem, decide_true, beq_self_eq_true, List.length_map, List.length_append, Nat.add_zero, Nat.zero_add, he, hm1, markA_zero, Int.natCast_zero] <;> rfl) ?_ (fun k hk hX => ?_)
    · trivial
    · skip
      refine Exec.reg ?_
      refine Run.op (by simp only [go_sem, decide_true, beq_self_eq_true, List.length_map, List.length_append, Nat.add_zero, Nat.zero_add, he, hm1] <;> rfl) (by simp only [go_sem] <;> rfl) ?_
      refine Run.nil ?_
      refine Exec.cndS (by simp only [go_sem, decide_true, beq_self_eq_true, List.length_map, List.length_append, Nat.add_zero, Nat.zero_add, he, hm1] <;> rfl) (fun hb44 => ?_) (fun hb44 => ?_)
      · skip
        have hlt := lt_of_dec hb44
        obtain ⟨x, hx⟩ : ∃ x, (explainR w).1[k]? = some x := ⟨_, List.getElem?_eq_getElem hlt⟩
        have hq : (markA (explainR w).1 k)[k]? = some x := mark_get _ hx
        have hs : markA (explainR w).1 (k + 1) = (markA (explainR w).1 k).set k { x with a := -1 } := mark_set _ hx
        have hml := markA_len (explainR w).1 hk
        refine Exec.skipS ?_
        refine Exec.blk ?_
        refine Exec.reg ?_
        iterate 2 (refine Run.op (by simp only [go_sem, decide_true, beq_self_eq_true, List.length_map, List.length_append, Nat.add_zero, Nat.zero_add, he, hm1, hq, hml] <;> rfl) (by simp only [go_sem] <;> rfl) ?_)
        refine Run.nil ?_
        refine Exec.reg1 ?_
        iterate 2 (refine Run.op (by simp only [go_sem, decide_true, beq_self_eq_true, List.length_map, List.length_append, Nat.add_zero, Nat.zero_add, he, hm1, hq, hml] <;> rfl) (by simp only [go_sem] <;> rfl) ?_)
        refine Run.op (by simp only [go_sem, decide_true, beq_self_eq_true, List.length_map, List.length_append, Nat.add_zero, Nat.zero_add, he, hm1, hq, hml]; (try simp (disch := omega) only [if_pos]); (try simp only [go_sem, decide_true, beq_self_eq_true, List.length_map, List.length_append, Nat.add_zero, Nat.zero_add, he, hm1, hq, hml])<;> rfl) (by simp only [go_sem] <;> rfl) ?_
        iterate 2 (refine Run.op (by simp only [go_sem, decide_true, beq_self_eq_true, List.length_map, List.length_append, Nat.add_zero, Nat.zero_add, he, hm1, hq, hml] <;> rfl) (by simp only [go_sem] <;> rfl) ?_)
        refine Run.nil ?_
        refine BlkK.nrm ?_
        refine Exec.reg1 ?_
        refine Run.op (by simp only [go_sem, decide_true, beq_self_eq_true, List.length_map, List.length_append, Nat.add_zero, Nat.zero_add, he, hm1, hq, hml]; (try simp (disch := omega) only [IntWalk.i64_in, if_neg, if_pos])<;> rfl) (by simp only [go_sem] <;> rfl) ?_
        refine Run.op (by simp only [go_sem, decide_true, beq_self_eq_true, List.length_map, List.length_append, Nat.add_zero, Nat.zero_add, he, hm1, hq, hml] <;> rfl) (by simp only [go_sem] <;> rfl) ?_
        refine Run.nil ?_
        refine ForK.nxt ?_ ?_ ?_
        · omega
        · exact Ghost.kp [1, 2, 3, 7, 8, 9, 10, 11, 42, 43] [3, 55000] (by simp only [go_sem, decide_true, beq_self_eq_true, List.length_map, List.length_append, Nat.add_zero, Nat.zero_add, he, hm1, hq, hml]; first | ((repeat' (first | with_reducible_and_instances rfl | refine st_eq ?_ ?_ ?_ | refine ret_eq ?_ | refine tup_eq ?_ | refine tm_eq ?_ ?_ | refine arr_eq ?_ | refine cells_eq ?_ | refine val_eq ?_ | refine ls_eq ?_ ?_ | refine own_eq ?_ ?_ | refine sl_eq ?_ | refine b_eq ?_ | (refine i_eq ?_; omega))); (all_goals (rw [hs, List.map_set]; rfl))) | rfl)
        · trivial
      · skip
        refine Exec.exitS ?_
        refine ForK.ext ?_
        refine BlkK.hit ?_
        refine Exec.reg ?_
        refine Run.op (by simp only [go_sem, decide_true, beq_self_eq_true, List.length_map, List.length_append, Nat.add_zero, Nat.zero_add, he, hm1] <;> rfl) (by simp only [go_sem] <;> rfl) ?_
        refine Run.cal (c_card_Mend w h1 h2 h20) (by simp only [go_sem]) (by simp only [go_sem, decide_true, beq_self_eq_true, List.length_map, List.length_append, Nat.add_zero, Nat.zero_add, he, hm1] <;> rfl) (by exact ⟨by first | exact WkR.pure rfl | exact WkR.nil _ | exact WkR.int (by first | omega | (simp; done) | (simp; omega)), trivial⟩) (fr0) (by simp only [go_sem, decide_true, beq_self_eq_true, List.length_map, List.length_append, Nat.add_zero, Nat.zero_add, he, hm1] <;> rfl) ?_
        iterate 5 (refine Run.op (by simp only [go_sem, decide_true, beq_self_eq_true, List.length_map, List.length_append, Nat.add_zero, Nat.zero_add, he, hm1] <;> rfl) (by simp only [go_sem] <;> rfl) ?_)
        refine Run.nil ?_
        refine Exec.reg ?_
        iterate 2 (refine Run.op (by simp only [go_sem, decide_true, beq_self_eq_true, List.length_map, List.length_append, Nat.add_zero, Nat.zero_add, he, hm1] <;> rfl) (by simp only [go_sem] <;> rfl) ?_)
        refine Run.op (by simp only [go_sem, decide_true, beq_self_eq_true, List.length_map, List.length_append, Nat.add_zero, Nat.zero_add, he, hm1]; (try simp (disch := omega) only [if_pos]); (try simp only [go_sem, decide_true, beq_self_eq_true, List.length_map, List.length_append, Nat.add_zero, Nat.zero_add, he, hm1]) <;> first | (refine ite_run ⟨by (try simp only [List.length_append, List.length_drop, List.length_take, List.length_map, List.length_cons, List.length_nil, List.length_replicate, List.length_set, List.length_range, Nat.zero_add]); omega, by (try simp only [List.length_append, List.length_drop, List.length_take, List.length_map, List.length_cons, List.length_nil, List.length_replicate, List.length_set, List.length_range, Nat.zero_add]); omega, by repeat (first | exact al_nil | assumption | refine al_app ?_ ?_ | refine al_drop ?_ | refine al_take ?_ | exact al_map (fun _ => rfl) | exact al_rep rfl | refine al_cons rfl ?_)⟩ ?_; simp only [go_sem, decide_true, beq_self_eq_true, List.length_map, List.length_append, Nat.add_zero, Nat.zero_add, he, hm1] <;> rfl) | (refine ite_run ⟨by (try simp only [List.length_append, List.length_drop, List.length_take, List.length_map, List.length_cons, List.length_nil, List.length_replicate, List.length_set, List.length_range, Nat.zero_add]); omega, by repeat (first | exact al_nil | assumption | refine al_app ?_ ?_ | refine al_drop ?_ | refine al_take ?_ | exact al_map (fun _ => rfl) | exact al_rep rfl | refine al_cons rfl ?_)⟩ ?_; simp only [go_sem, decide_true, beq_self_eq_true, List.length_map, List.length_append, Nat.add_zero, Nat.zero_add, he, hm1] <;> rfl) | rfl) (by simp only [go_sem] <;> rfl) ?_
        refine Run.op (by simp only [go_sem, decide_true, beq_self_eq_true, List.length_map, List.length_append, Nat.add_zero, Nat.zero_add, he, hm1] <;> rfl) (by simp only [go_sem] <;> rfl) ?_
        refine Run.nil ?_
        refine Exec.assocS ?_
        refine Exec.reg ?_
        refine Run.frz 56 (by simp only [go_sem, take_map_len, take_map_app] <;> rfl) ?_
        iterate 3 (refine Run.op (by simp only [go_sem, decide_true, beq_self_eq_true, List.length_map, List.length_append, Nat.add_zero, Nat.zero_add, he, hm1] <;> rfl) (by simp only [go_sem] <;> rfl) ?_)
        refine Run.nil ?_
        refine Exec.blk ?_
        refine Exec.forA [1, 2, 3, 7, 8, 10, 11, 13, 14, 15, 60, 61] [3, 79009] ((mendR w).1.length) (fun k => [.slot 61 (.int k)]) (fun _ => True) (fun k => by simp only [go_sem] <;> rfl) (by simp only [go_sem, decide_true, beq_self_eq_true, List.length_map, List.length_append, Nat.add_zero, Nat.zero_add, he, hm1, markS_zero, Int.natCast_zero] <;> rfl) ?_ (fun k hk hX => ?_)
        · trivial
        · skip
          refine Exec.reg ?_
          refine Run.op (by simp only [go_sem, decide_true, beq_self_eq_true, List.length_map, List.length_append, Nat.add_zero, Nat.zero_add, he, hm1] <;> rfl) (by simp only [go_sem] <;> rfl) ?_
          refine Run.nil ?_
          refine Exec.cndS (by simp only [go_sem, decide_true, beq_self_eq_true, List.length_map, List.length_append, Nat.add_zero, Nat.zero_add, he, hm1] <;> rfl) (fun hb62 => ?_) (fun hb62 => ?_)
          · skip
            exact absurd (of_decide_eq_true hb62) (by omega)
          · skip
            refine Exec.exitS ?_
            refine ForK.ext ?_
            refine BlkK.hit ?_
            refine Exec.reg ?_
            refine Run.op (by simp only [go_sem, decide_true, beq_self_eq_true, List.length_map, List.length_append, Nat.add_zero, Nat.zero_add, he, hm1] <;> rfl) (by simp only [go_sem] <;> rfl) ?_
            refine Run.cal (c_card_Misfit w h1 h2 h20) (by simp only [go_sem]) (by simp only [go_sem, decide_true, beq_self_eq_true, List.length_map, List.length_append, Nat.add_zero, Nat.zero_add, he, hm1] <;> rfl) (by exact ⟨by first | exact WkR.pure rfl | exact WkR.nil _ | exact WkR.int (by first | omega | (simp; done) | (simp; omega)), trivial⟩) (fr0) (by simp only [go_sem, decide_true, beq_self_eq_true, List.length_map, List.length_append, Nat.add_zero, Nat.zero_add, he, hm1] <;> rfl) ?_
            refine Run.nil ?_
            refine Exec.reg ?_
            iterate 3 (refine Run.op (by simp only [go_sem, decide_true, beq_self_eq_true, List.length_map, List.length_append, Nat.add_zero, Nat.zero_add, he, hm1] <;> rfl) (by simp only [go_sem] <;> rfl) ?_)
            refine Run.cal (c_card_Shows w house day h1 h2 h20) (by simp only [go_sem]) (by simp only [go_sem, decide_true, beq_self_eq_true, List.length_map, List.length_append, Nat.add_zero, Nat.zero_add, he, hm1] <;> rfl) (by exact ⟨by first | exact WkR.pure rfl | exact WkR.nil _ | exact WkR.int (by first | omega | (simp; done) | (simp; omega)), by first | exact WkR.pure rfl | exact WkR.nil _ | exact WkR.int (by first | omega | (simp; done) | (simp; omega)), by first | exact WkR.pure rfl | exact WkR.nil _ | exact WkR.int (by first | omega | (simp; done) | (simp; omega)), trivial⟩) (fr0) (by simp only [go_sem, decide_true, beq_self_eq_true, List.length_map, List.length_append, Nat.add_zero, Nat.zero_add, he, hm1] <;> rfl) ?_
            refine Run.nil ?_
            refine Exec.reg ?_
            refine Run.op (by simp only [go_sem, decide_true, beq_self_eq_true, List.length_map, List.length_append, Nat.add_zero, Nat.zero_add, he, hm1] <;> rfl) (by simp only [go_sem] <;> rfl) ?_
            refine Run.cal (c_card_Explain w h1 h2 h20) (by simp only [go_sem]) (by simp only [go_sem, decide_true, beq_self_eq_true, List.length_map, List.length_append, Nat.add_zero, Nat.zero_add, he, hm1] <;> rfl) (by exact ⟨by first | exact WkR.pure rfl | exact WkR.nil _ | exact WkR.int (by first | omega | (simp; done) | (simp; omega)), trivial⟩) (fr0) (by simp only [go_sem, decide_true, beq_self_eq_true, List.length_map, List.length_append, Nat.add_zero, Nat.zero_add, he, hm1] <;> rfl) ?_
            iterate 5 (refine Run.op (by simp only [go_sem, decide_true, beq_self_eq_true, List.length_map, List.length_append, Nat.add_zero, Nat.zero_add, he, hm1] <;> rfl) (by simp only [go_sem] <;> rfl) ?_)
            refine Run.nil ?_
            refine Exec.reg ?_
            refine Run.op (by simp only [go_sem, decide_true, beq_self_eq_true, List.length_map, List.length_append, Nat.add_zero, Nat.zero_add, he, hm1] <;> rfl) (by simp only [go_sem] <;> rfl) ?_
            refine Run.cal (c_card_Mend w h1 h2 h20) (by simp only [go_sem]) (by simp only [go_sem, decide_true, beq_self_eq_true, List.length_map, List.length_append, Nat.add_zero, Nat.zero_add, he, hm1] <;> rfl) (by exact ⟨by first | exact WkR.pure rfl | exact WkR.nil _ | exact WkR.int (by first | omega | (simp; done) | (simp; omega)), trivial⟩) (fr0) (by simp only [go_sem, decide_true, beq_self_eq_true, List.length_map, List.length_append, Nat.add_zero, Nat.zero_add, he, hm1] <;> rfl) ?_
            iterate 5 (refine Run.op (by simp only [go_sem, decide_true, beq_self_eq_true, List.length_map, List.length_append, Nat.add_zero, Nat.zero_add, he, hm1] <;> rfl) (by simp only [go_sem] <;> rfl) ?_)
            refine Run.nil ?_
            refine Exec.assocS ?_
            refine Exec.reg ?_
            iterate 3 (refine Run.op (by simp only [go_sem, decide_true, beq_self_eq_true, List.length_map, List.length_append, Nat.add_zero, Nat.zero_add, he, hm1] <;> rfl) (by simp only [go_sem] <;> rfl) ?_)
            refine Run.nil ?_
            refine Exec.blk ?_
            refine Exec.forA [3, 7, 8, 10, 11, 14, 15, 17, 18, 19, 20, 86, 87] [3] (w.rates.length) (fun k => [.slot 87 (.int k)]) (fun _ => True) (fun k => by simp only [go_sem] <;> rfl) (by simp only [go_sem, decide_true, beq_self_eq_true, List.length_map, List.length_append, Nat.add_zero, Nat.zero_add, he, hm1] <;> rfl) ?_ (fun k hk hX => ?_)
            · trivial
            · skip
              refine Exec.reg ?_
              refine Run.op (by simp only [go_sem, decide_true, beq_self_eq_true, List.length_map, List.length_append, Nat.add_zero, Nat.zero_add, he, hm1] <;> rfl) (by simp only [go_sem] <;> rfl) ?_
              refine Run.nil ?_
              refine Exec.cndS (by simp only [go_sem, decide_true, beq_self_eq_true, List.length_map, List.length_append, Nat.add_zero, Nat.zero_add, he, hm1] <;> rfl) (fun hb88 => ?_) (fun hb88 => ?_)
              · skip
                have hlt := lt_of_dec hb88
                have hs := rt_get hlt
                refine Exec.skipS ?_
                refine Exec.blk ?_
                refine Exec.reg ?_
                iterate 2 (refine Run.op (by simp only [go_sem, decide_true, beq_self_eq_true, List.length_map, List.length_append, Nat.add_zero, Nat.zero_add, he, hm1, hs] <;> rfl) (by simp only [go_sem] <;> rfl) ?_)
                refine Run.nil ?_
                refine Exec.opk 12 ?_
                refine OpenK.op (by simp only [go_sem, decide_true, beq_self_eq_true, List.length_map, List.length_append, Nat.add_zero, Nat.zero_add, he, hm1, hs] <;> rfl) (by simp only [go_sem] <;> rfl) (by simp only [go_sem] <;> rfl) ?_
                refine OpenK.op (by simp only [go_sem, decide_true, beq_self_eq_true, List.length_map, List.length_append, Nat.add_zero, Nat.zero_add, he, hm1, hs] <;> rfl) (by simp only [go_sem] <;> rfl) (by simp only [go_sem] <;> rfl) ?_
                refine OpenK.op (by simp only [go_sem, decide_true, beq_self_eq_true, List.length_map, List.length_append, Nat.add_zero, Nat.zero_add, he, hm1, hs]; (try simp (disch := omega) only [if_pos]); (try simp only [go_sem, decide_true, beq_self_eq_true, List.length_map, List.length_append, Nat.add_zero, Nat.zero_add, he, hm1, hs])<;> rfl) (by simp only [go_sem] <;> rfl) (by simp only [go_sem] <;> rfl) ?_
                refine OpenK.op (by simp only [go_sem, decide_true, beq_self_eq_true, List.length_map, List.length_append, Nat.add_zero, Nat.zero_add, he, hm1, hs] <;> rfl) (by simp only [go_sem] <;> rfl) (by simp only [go_sem] <;> rfl) ?_
                refine OpenK.op (by simp only [go_sem, decide_true, beq_self_eq_true, List.length_map, List.length_append, Nat.add_zero, Nat.zero_add, he, hm1, hs] <;> rfl) (by simp only [go_sem] <;> rfl) (by simp only [go_sem] <;> rfl) ?_
                refine OpenK.op (by simp only [go_sem, decide_true, beq_self_eq_true, List.length_map, List.length_append, Nat.add_zero, Nat.zero_add, he, hm1, hs] <;> rfl) (by simp only [go_sem] <;> rfl) (by simp only [go_sem] <;> rfl) ?_
                refine OpenK.op (by simp only [go_sem, decide_true, beq_self_eq_true, List.length_map, List.length_append, Nat.add_zero, Nat.zero_add, he, hm1, hs] <;> rfl) (by simp only [go_sem] <;> rfl) (by simp only [go_sem] <;> rfl) ?_
                refine OpenK.op (by simp only [go_sem, decide_true, beq_self_eq_true, List.length_map, List.length_append, Nat.add_zero, Nat.zero_add, he, hm1, hs]; (try simp (disch := omega) only [if_pos]); (try simp only [go_sem, decide_true, beq_self_eq_true, List.length_map, List.length_append, Nat.add_zero, Nat.zero_add, he, hm1, hs])<;> rfl) (by simp only [go_sem] <;> rfl) (by simp only [go_sem] <;> rfl) ?_
                refine OpenK.op (by simp only [go_sem, decide_true, beq_self_eq_true, List.length_map, List.length_append, Nat.add_zero, Nat.zero_add, he, hm1, hs] <;> rfl) (by simp only [go_sem] <;> rfl) (by simp only [go_sem] <;> rfl) ?_
                refine OpenK.op (by simp only [go_sem, decide_true, beq_self_eq_true, List.length_map, List.length_append, Nat.add_zero, Nat.zero_add, he, hm1, hs] <;> rfl) (by simp only [go_sem] <;> rfl) (by simp only [go_sem] <;> rfl) ?_
                refine OpenK.nil (OpenE.fin (by decide +kernel) (by decide +kernel) ?_)
                refine Exec.cnd (by simp only [go_sem, decide_true, beq_self_eq_true, List.length_map, List.length_append, Nat.add_zero, Nat.zero_add, he, hm1, hs] <;> rfl) (fun hb99 => ?_) (fun hb99 => ?_)
                · skip
                  exact absurd hb99 (by simp)
                · skip
                  refine BlkK.nrm ?_
                  refine Exec.reg1 ?_
                  refine Run.op (by simp only [go_sem, decide_true, beq_self_eq_true, List.length_map, List.length_append, Nat.add_zero, Nat.zero_add, he, hm1, hs]; (try simp (disch := omega) only [IntWalk.i64_in, if_neg, if_pos])<;> rfl) (by simp only [go_sem] <;> rfl) ?_
                  refine Run.op (by simp only [go_sem, decide_true, beq_self_eq_true, List.length_map, List.length_append, Nat.add_zero, Nat.zero_add, he, hm1, hs] <;> rfl) (by simp only [go_sem] <;> rfl) ?_
                  refine Run.nil ?_
                  refine ForK.nxt ?_ ?_ ?_
                  · omega
                  · exact Ghost.kp [3, 7, 8, 10, 11, 14, 15, 17, 18, 19, 20, 86, 87] [3] (by simp only [go_sem, decide_true, beq_self_eq_true, List.length_map, List.length_append, Nat.add_zero, Nat.zero_add, he, hm1, hs]; first | ((repeat' (first | with_reducible_and_instances rfl | refine st_eq ?_ ?_ ?_ | refine ret_eq ?_ | refine tup_eq ?_ | refine tm_eq ?_ ?_ | refine arr_eq ?_ | refine cells_eq ?_ | refine val_eq ?_ | refine ls_eq ?_ ?_ | refine own_eq ?_ ?_ | refine sl_eq ?_ | refine b_eq ?_ | (refine i_eq ?_; omega))); done) | rfl)
                  · trivial
              · skip
                refine Exec.exitS ?_
                refine ForK.ext ?_
                refine BlkK.hit ?_
                refine Exec.reg ?_
                iterate 3 (refine Run.op (by simp only [go_sem, decide_true, beq_self_eq_true, List.length_map, List.length_append, Nat.add_zero, Nat.zero_add, he, hm1] <;> rfl) (by simp only [go_sem] <;> rfl) ?_)
                refine Run.cal (c_meterworksref12_Readings w.readings w.readings h2 h2) (by simp only [go_sem]) (by simp only [go_sem, decide_true, beq_self_eq_true, List.length_map, List.length_append, Nat.add_zero, Nat.zero_add, he, hm1] <;> rfl) (by exact ⟨by first | exact WkR.pure rfl | exact WkR.nil _ | exact WkR.int (by first | omega | (simp; done) | (simp; omega)), by first | exact WkR.pure rfl | exact WkR.nil _ | exact WkR.int (by first | omega | (simp; done) | (simp; omega)), trivial⟩) (fr0) (by simp only [go_sem, decide_true, beq_self_eq_true, List.length_map, List.length_append, Nat.add_zero, Nat.zero_add, he, hm1] <;> rfl) ?_
                refine Run.op (by simp only [go_sem, decide_true, beq_self_eq_true, List.length_map, List.length_append, Nat.add_zero, Nat.zero_add, he, hm1] <;> rfl) (by simp only [go_sem] <;> rfl) ?_
                refine Run.yes (by simp only [go_sem] <;> rfl) (by simp only [go_sem, decide_true, beq_self_eq_true, List.length_map, List.length_append, Nat.add_zero, Nat.zero_add, he, hm1] <;> rfl) (by simp only [go_sem] <;> rfl) ?_
                refine Run.yes (by simp only [go_sem] <;> rfl) (by simp only [go_sem, decide_true, beq_self_eq_true, List.length_map, List.length_append, Nat.add_zero, Nat.zero_add, he, hm1] <;> rfl) (by simp only [go_sem] <;> rfl) ?_
                refine Run.calw (by simp only [go_sem] <;> rfl) (c_meterworksref12_Repairs _ _ (len_expl w) (len_expl w)) (by simp only [go_sem]) (by simp only [go_sem, decide_true, beq_self_eq_true, List.length_map, List.length_append, Nat.add_zero, Nat.zero_add, he, hm1] <;> rfl) (by simp only [go_sem, decide_true, beq_self_eq_true, List.length_map, List.length_append, Nat.add_zero, Nat.zero_add, he, hm1] <;> rfl) (by exact ⟨by first | exact WkR.pure rfl | exact WkR.nil _ | exact WkR.int (by first | omega | (simp; done) | (simp; omega)), by first | exact WkR.pure rfl | exact WkR.nil _ | exact WkR.int (by first | omega | (simp; done) | (simp; omega)), trivial⟩) (fr0) (by simp only [go_sem, decide_true, beq_self_eq_true, List.length_map, List.length_append, Nat.add_zero, Nat.zero_add, he, hm1] <;> rfl) ?_
                iterate 2 (refine Run.op (by simp only [go_sem, decide_true, beq_self_eq_true, List.length_map, List.length_append, Nat.add_zero, Nat.zero_add, he, hm1] <;> rfl) (by simp only [go_sem] <;> rfl) ?_)
                refine Run.yes (by simp only [go_sem] <;> rfl) (by simp only [go_sem, decide_true, beq_self_eq_true, List.length_map, List.length_append, Nat.add_zero, Nat.zero_add, he, hm1] <;> rfl) (by simp only [go_sem] <;> rfl) ?_
                refine Run.yes (by simp only [go_sem] <;> rfl) (by simp only [go_sem, decide_true, beq_self_eq_true, List.length_map, List.length_append, Nat.add_zero, Nat.zero_add, he, hm1] <;> rfl) (by simp only [go_sem] <;> rfl) ?_
                refine Run.yes (by simp only [go_sem] <;> rfl) (by simp only [go_sem, decide_true, beq_self_eq_true, List.length_map, List.length_append, Nat.add_zero, Nat.zero_add, he, hm1] <;> rfl) (by simp only [go_sem] <;> rfl) ?_
                iterate 2 (refine Run.op (by simp only [go_sem, decide_true, beq_self_eq_true, List.length_map, List.length_append, Nat.add_zero, Nat.zero_add, he, hm1] <;> rfl) (by simp only [go_sem] <;> rfl) ?_)
                refine Run.yes (by simp only [go_sem] <;> rfl) (by simp only [go_sem, decide_true, beq_self_eq_true, List.length_map, List.length_append, Nat.add_zero, Nat.zero_add, he, hm1] <;> rfl) (by simp only [go_sem] <;> rfl) ?_
                refine Run.yes (by simp only [go_sem] <;> rfl) (by simp only [go_sem, decide_true, beq_self_eq_true, List.length_map, List.length_append, Nat.add_zero, Nat.zero_add, he, hm1] <;> rfl) (by simp only [go_sem] <;> rfl) ?_
                refine Run.calw (by simp only [go_sem] <;> rfl) (c_meterworksref12_Readings [] [] (by decide) (by decide)) (by simp only [go_sem]) (by simp only [go_sem, decide_true, beq_self_eq_true, List.length_map, List.length_append, Nat.add_zero, Nat.zero_add, he, hm1] <;> rfl) (by simp only [go_sem, decide_true, beq_self_eq_true, List.length_map, List.length_append, Nat.add_zero, Nat.zero_add, he, hm1] <;> rfl) (by exact ⟨by first | exact WkR.pure rfl | exact WkR.nil _ | exact WkR.int (by first | omega | (simp; done) | (simp; omega)), by first | exact WkR.pure rfl | exact WkR.nil _ | exact WkR.int (by first | omega | (simp; done) | (simp; omega)), trivial⟩) (fr0) (by simp only [go_sem, decide_true, beq_self_eq_true, List.length_map, List.length_append, Nat.add_zero, Nat.zero_add, he, hm1] <;> rfl) ?_
                iterate 2 (refine Run.op (by simp only [go_sem, decide_true, beq_self_eq_true, List.length_map, List.length_append, Nat.add_zero, Nat.zero_add, he, hm1] <;> rfl) (by simp only [go_sem] <;> rfl) ?_)
                refine Run.yes (by simp only [go_sem] <;> rfl) (by simp only [go_sem, decide_true, beq_self_eq_true, List.length_map, List.length_append, Nat.add_zero, Nat.zero_add, he, hm1] <;> rfl) (by simp only [go_sem] <;> rfl) ?_
                refine Run.yes (by simp only [go_sem] <;> rfl) (by simp only [go_sem, decide_true, beq_self_eq_true, List.length_map, List.length_append, Nat.add_zero, Nat.zero_add, he, hm1] <;> rfl) (by simp only [go_sem] <;> rfl) ?_
                refine Run.yes (by simp only [go_sem] <;> rfl) (by simp only [go_sem, decide_true, beq_self_eq_true, List.length_map, List.length_append, Nat.add_zero, Nat.zero_add, he, hm1] <;> rfl) (by simp only [go_sem] <;> rfl) ?_
                iterate 2 (refine Run.op (by simp only [go_sem, decide_true, beq_self_eq_true, List.length_map, List.length_append, Nat.add_zero, Nat.zero_add, he, hm1] <;> rfl) (by simp only [go_sem] <;> rfl) ?_)
                refine Run.calw (by simp only [go_sem] <;> rfl) (c_law_alive) (by simp only [go_sem]) (by simp only [go_sem, decide_true, beq_self_eq_true, List.length_map, List.length_append, Nat.add_zero, Nat.zero_add, he, hm1] <;> rfl) (by simp only [go_sem, decide_true, beq_self_eq_true, List.length_map, List.length_append, Nat.add_zero, Nat.zero_add, he, hm1] <;> rfl) (by exact trivial) (fr0) (by simp only [go_sem, decide_true, beq_self_eq_true, List.length_map, List.length_append, Nat.add_zero, Nat.zero_add, he, hm1] <;> rfl) ?_
                iterate 2 (refine Run.op (by simp only [go_sem, decide_true, beq_self_eq_true, List.length_map, List.length_append, Nat.add_zero, Nat.zero_add, he, hm1] <;> rfl) (by simp only [go_sem] <;> rfl) ?_)
                refine Run.nil ?_
                exact Ends.fin [] (rs := [.tmp 6]) rfl (by simp only [go_sem, decide_true, beq_self_eq_true, List.length_map, List.length_append, Nat.add_zero, Nat.zero_add, he, hm1] <;> rfl) (by simp only [go_sem, decide_true, beq_self_eq_true, List.length_map, List.length_append, Nat.add_zero, Nat.zero_add, he, hm1] <;> first | rfl | ((repeat' (first | with_reducible_and_instances rfl | refine st_eq ?_ ?_ ?_ | refine ret_eq ?_ | refine tup_eq ?_ | refine tm_eq ?_ ?_ | refine arr_eq ?_ | refine cells_eq ?_ | refine val_eq ?_ | refine ls_eq ?_ ?_ | refine own_eq ?_ ?_ | refine sl_eq ?_ | refine b_eq ?_ | (refine i_eq ?_; omega))); done))

set_option maxRecDepth 20000 in
set_option maxHeartbeats 32000000 in
/-- meterworks/meterworkslaw12.CardOwns -/
theorem c_law_CardOwns_2 (w : Walk) (house day : Int) (he : ¬ (explainR w).2 = 0) : Contract Try.prog 11 [walkV w, .int house, .int day] (.bool true) [] := by
  have he1 := expl_no2 he
  have hm0 : ¬ (mendR w).2 = 0 := fun h => he (mend_expl h)
  have hm1 := mend_no hm0
  have hle := len_expl w
  have hsp3 := al_sp w
  refine con_of follows_mixed Try.func11 rfl (by simp only [List.length_cons, List.length_nil, Try.ntmps11]; omega) (by kernel_rfl) rfl ?_
  refine Exec.reg ?_
  iterate 2 (refine Run.op (by simp only [go_sem, decide_true, beq_self_eq_true, List.length_map, List.length_append, Nat.add_zero, Nat.zero_add, he1, hm1] <;> rfl) (by simp only [go_sem] <;> rfl) ?_)
  refine Run.nil ?_
  refine Exec.assocS ?_
  refine Exec.reg ?_
  refine Run.op (by simp only [go_sem, decide_true, beq_self_eq_true, List.length_map, List.length_append, Nat.add_zero, Nat.zero_add, he1, hm1] <;> rfl) (by simp only [go_sem] <;> rfl) ?_
  refine Run.cal (c_law_great w 12) (by simp only [go_sem]) (by simp only [go_sem, decide_true, beq_self_eq_true, List.length_map, List.length_append, Nat.add_zero, Nat.zero_add, he1, hm1] <;> rfl) (by exact ⟨by first | exact WkR.pure rfl | exact WkR.nil _ | exact WkR.int (by first | omega | (simp; done) | (simp; omega)), by first | exact WkR.pure rfl | exact WkR.nil _ | exact WkR.int (by first | omega | (simp; done) | (simp; omega)), trivial⟩) (fr0) (by simp only [go_sem, decide_true, beq_self_eq_true, List.length_map, List.length_append, Nat.add_zero, Nat.zero_add, he1, hm1] <;> rfl) ?_
  refine Run.nil ?_
  refine Exec.cndS (by simp only [go_sem, decide_true, beq_self_eq_true, List.length_map, List.length_append, Nat.add_zero, Nat.zero_add, he1, hm1] <;> rfl) (fun hb23 => ?_) (fun hb23 => ?_)
  · skip
    refine Exec.assocS ?_
    refine Exec.reg ?_
    refine Run.cal (c_law_alive) (by simp only [go_sem]) (by simp only [go_sem, decide_true, beq_self_eq_true, List.length_map, List.length_append, Nat.add_zero, Nat.zero_add, he1, hm1] <;> rfl) (by exact trivial) (fr0) (by simp only [go_sem, decide_true, beq_self_eq_true, List.length_map, List.length_append, Nat.add_zero, Nat.zero_add, he1, hm1] <;> rfl) ?_
    refine Run.op (by simp only [go_sem, decide_true, beq_self_eq_true, List.length_map, List.length_append, Nat.add_zero, Nat.zero_add, he1, hm1] <;> rfl) (by simp only [go_sem] <;> rfl) ?_
    refine Run.nil ?_
    refine Exec.retS ?_
    exact Ends.fin [] (rs := [.tmp 6]) rfl (by simp only [go_sem, decide_true, beq_self_eq_true, List.length_map, List.length_append, Nat.add_zero, Nat.zero_add, he1, hm1] <;> rfl) (by simp only [go_sem, decide_true, beq_self_eq_true, List.length_map, List.length_append, Nat.add_zero, Nat.zero_add, he1, hm1] <;> first | rfl | ((repeat' (first | with_reducible_and_instances rfl | refine st_eq ?_ ?_ ?_ | refine ret_eq ?_ | refine tup_eq ?_ | refine tm_eq ?_ ?_ | refine arr_eq ?_ | refine cells_eq ?_ | refine val_eq ?_ | refine ls_eq ?_ ?_ | refine own_eq ?_ ?_ | refine sl_eq ?_ | refine b_eq ?_ | (refine i_eq ?_; omega))); done))
  · skip
    have hg := great_no hb23
    have h1 : w.rates.length ≤ 1000 := by omega
    have h2 : w.readings.length ≤ 1000 := by omega
    have h20 := h20_great hb23 (by omega)
    have hlm := len_mend h2
    refine Exec.skipS ?_
    refine Exec.opk 12 ?_
    refine OpenK.op (by simp only [go_sem, decide_true, beq_self_eq_true, List.length_map, List.length_append, Nat.add_zero, Nat.zero_add, he1, hm1] <;> rfl) (by simp only [go_sem] <;> rfl) (by simp only [go_sem] <;> rfl) ?_
    refine OpenK.op (by simp only [go_sem, decide_true, beq_self_eq_true, List.length_map, List.length_append, Nat.add_zero, Nat.zero_add, he1, hm1] <;> rfl) (by simp only [go_sem] <;> rfl) (by simp only [go_sem] <;> rfl) ?_
    refine OpenK.op (by simp only [go_sem, decide_true, beq_self_eq_true, List.length_map, List.length_append, Nat.add_zero, Nat.zero_add, he1, hm1] <;> rfl) (by simp only [go_sem] <;> rfl) (by simp only [go_sem] <;> rfl) ?_
    refine OpenK.op (by simp only [go_sem, decide_true, beq_self_eq_true, List.length_map, List.length_append, Nat.add_zero, Nat.zero_add, he1, hm1]; (try simp (disch := omega) only [if_pos]); (try simp only [go_sem, decide_true, beq_self_eq_true, List.length_map, List.length_append, Nat.add_zero, Nat.zero_add, he1, hm1]) <;> first | (refine ite_run ⟨by (try simp only [List.length_append, List.length_drop, List.length_take, List.length_map, List.length_cons, List.length_nil, List.length_replicate, List.length_set, List.length_range, Nat.zero_add]); omega, by (try simp only [List.length_append, List.length_drop, List.length_take, List.length_map, List.length_cons, List.length_nil, List.length_replicate, List.length_set, List.length_range, Nat.zero_add]); omega, by repeat (first | exact al_nil | assumption | refine al_app ?_ ?_ | refine al_drop ?_ | refine al_take ?_ | exact al_map (fun _ => rfl) | exact al_rep rfl | refine al_cons rfl ?_)⟩ ?_; simp only [go_sem, decide_true, beq_self_eq_true, List.length_map, List.length_append, Nat.add_zero, Nat.zero_add, he1, hm1] <;> rfl) | (refine ite_run ⟨by (try simp only [List.length_append, List.length_drop, List.length_take, List.length_map, List.length_cons, List.length_nil, List.length_replicate, List.length_set, List.length_range, Nat.zero_add]); omega, by repeat (first | exact al_nil | assumption | refine al_app ?_ ?_ | refine al_drop ?_ | refine al_take ?_ | exact al_map (fun _ => rfl) | exact al_rep rfl | refine al_cons rfl ?_)⟩ ?_; simp only [go_sem, decide_true, beq_self_eq_true, List.length_map, List.length_append, Nat.add_zero, Nat.zero_add, he1, hm1] <;> rfl) | rfl) (by simp only [go_sem] <;> rfl) (by simp only [go_sem] <;> rfl) ?_
    refine OpenK.op (by simp only [go_sem, decide_true, beq_self_eq_true, List.length_map, List.length_append, Nat.add_zero, Nat.zero_add, he1, hm1] <;> rfl) (by simp only [go_sem] <;> rfl) (by simp only [go_sem] <;> rfl) ?_
    refine OpenK.op (by simp only [go_sem, decide_true, beq_self_eq_true, List.length_map, List.length_append, Nat.add_zero, Nat.zero_add, he1, hm1] <;> rfl) (by simp only [go_sem] <;> rfl) (by simp only [go_sem] <;> rfl) ?_
    refine OpenK.op (by simp only [go_sem, decide_true, beq_self_eq_true, List.length_map, List.length_append, Nat.add_zero, Nat.zero_add, he1, hm1] <;> rfl) (by simp only [go_sem] <;> rfl) (by simp only [go_sem] <;> rfl) ?_
    refine OpenK.op (by simp only [go_sem, decide_true, beq_self_eq_true, List.length_map, List.length_append, Nat.add_zero, Nat.zero_add, he1, hm1]; (try simp (disch := omega) only [if_pos]); (try simp only [go_sem, decide_true, beq_self_eq_true, List.length_map, List.length_append, Nat.add_zero, Nat.zero_add, he1, hm1]) <;> first | (refine ite_run ⟨by (try simp only [List.length_append, List.length_drop, List.length_take, List.length_map, List.length_cons, List.length_nil, List.length_replicate, List.length_set, List.length_range, Nat.zero_add]); omega, by (try simp only [List.length_append, List.length_drop, List.length_take, List.length_map, List.length_cons, List.length_nil, List.length_replicate, List.length_set, List.length_range, Nat.zero_add]); omega, by repeat (first | exact al_nil | assumption | refine al_app ?_ ?_ | refine al_drop ?_ | refine al_take ?_ | exact al_map (fun _ => rfl) | exact al_rep rfl | refine al_cons rfl ?_)⟩ ?_; simp only [go_sem, decide_true, beq_self_eq_true, List.length_map, List.length_append, Nat.add_zero, Nat.zero_add, he1, hm1] <;> rfl) | (refine ite_run ⟨by (try simp only [List.length_append, List.length_drop, List.length_take, List.length_map, List.length_cons, List.length_nil, List.length_replicate, List.length_set, List.length_range, Nat.zero_add]); omega, by repeat (first | exact al_nil | assumption | refine al_app ?_ ?_ | refine al_drop ?_ | refine al_take ?_ | exact al_map (fun _ => rfl) | exact al_rep rfl | refine al_cons rfl ?_)⟩ ?_; simp only [go_sem, decide_true, beq_self_eq_true, List.length_map, List.length_append, Nat.add_zero, Nat.zero_add, he1, hm1] <;> rfl) | rfl) (by simp only [go_sem] <;> rfl) (by simp only [go_sem] <;> rfl) ?_
    refine OpenK.op (by simp only [go_sem, decide_true, beq_self_eq_true, List.length_map, List.length_append, Nat.add_zero, Nat.zero_add, he1, hm1] <;> rfl) (by simp only [go_sem] <;> rfl) (by simp only [go_sem] <;> rfl) ?_
    refine OpenK.op (by simp only [go_sem, decide_true, beq_self_eq_true, List.length_map, List.length_append, Nat.add_zero, Nat.zero_add, he1, hm1] <;> rfl) (by simp only [go_sem] <;> rfl) (by simp only [go_sem] <;> rfl) ?_
    refine OpenK.nil (OpenE.fin (by decide +kernel) (by decide +kernel) ?_)
    refine Exec.reg ?_
    refine Run.frz 25 (by simp only [go_sem, take_map_len, take_map_app] <;> rfl) ?_
    refine Run.frz 29 (by simp only [go_sem, take_map_len, take_map_app] <;> rfl) ?_
    refine Run.op (by simp only [go_sem, decide_true, beq_self_eq_true, List.length_map, List.length_append, Nat.add_zero, Nat.zero_add, he1, hm1] <;> rfl) (by simp only [go_sem] <;> rfl) ?_
    refine Run.cal (c_card_Explain w h1 h2 h20) (by simp only [go_sem]) (by simp only [go_sem, decide_true, beq_self_eq_true, List.length_map, List.length_append, Nat.add_zero, Nat.zero_add, he1, hm1] <;> rfl) (by exact ⟨by first | exact WkR.pure rfl | exact WkR.nil _ | exact WkR.int (by first | omega | (simp; done) | (simp; omega)), trivial⟩) (fr0) (by simp only [go_sem, decide_true, beq_self_eq_true, List.length_map, List.length_append, Nat.add_zero, Nat.zero_add, he1, hm1] <;> rfl) ?_
    iterate 5 (refine Run.op (by simp only [go_sem, decide_true, beq_self_eq_true, List.length_map, List.length_append, Nat.add_zero, Nat.zero_add, he1, hm1] <;> rfl) (by simp only [go_sem] <;> rfl) ?_)
    refine Run.nil ?_
    refine Exec.reg ?_
    iterate 2 (refine Run.op (by simp only [go_sem, decide_true, beq_self_eq_true, List.length_map, List.length_append, Nat.add_zero, Nat.zero_add, he1, hm1] <;> rfl) (by simp only [go_sem] <;> rfl) ?_)
    refine Run.op (by simp only [go_sem, decide_true, beq_self_eq_true, List.length_map, List.length_append, Nat.add_zero, Nat.zero_add, he1, hm1]; (try simp (disch := omega) only [if_pos]); (try simp only [go_sem, decide_true, beq_self_eq_true, List.length_map, List.length_append, Nat.add_zero, Nat.zero_add, he1, hm1]) <;> first | (refine ite_run ⟨by (try simp only [List.length_append, List.length_drop, List.length_take, List.length_map, List.length_cons, List.length_nil, List.length_replicate, List.length_set, List.length_range, Nat.zero_add]); omega, by (try simp only [List.length_append, List.length_drop, List.length_take, List.length_map, List.length_cons, List.length_nil, List.length_replicate, List.length_set, List.length_range, Nat.zero_add]); omega, by repeat (first | exact al_nil | assumption | refine al_app ?_ ?_ | refine al_drop ?_ | refine al_take ?_ | exact al_map (fun _ => rfl) | exact al_rep rfl | refine al_cons rfl ?_)⟩ ?_; simp only [go_sem, decide_true, beq_self_eq_true, List.length_map, List.length_append, Nat.add_zero, Nat.zero_add, he1, hm1] <;> rfl) | (refine ite_run ⟨by (try simp only [List.length_append, List.length_drop, List.length_take, List.length_map, List.length_cons, List.length_nil, List.length_replicate, List.length_set, List.length_range, Nat.zero_add]); omega, by repeat (first | exact al_nil | assumption | refine al_app ?_ ?_ | refine al_drop ?_ | refine al_take ?_ | exact al_map (fun _ => rfl) | exact al_rep rfl | refine al_cons rfl ?_)⟩ ?_; simp only [go_sem, decide_true, beq_self_eq_true, List.length_map, List.length_append, Nat.add_zero, Nat.zero_add, he1, hm1] <;> rfl) | rfl) (by simp only [go_sem] <;> rfl) ?_
    refine Run.op (by simp only [go_sem, decide_true, beq_self_eq_true, List.length_map, List.length_append, Nat.add_zero, Nat.zero_add, he1, hm1] <;> rfl) (by simp only [go_sem] <;> rfl) ?_
    refine Run.nil ?_
    refine Exec.assocS ?_
    refine Exec.reg ?_
    refine Run.frz 38 (by simp only [go_sem, take_map_len, take_map_app] <;> rfl) ?_
    iterate 3 (refine Run.op (by simp only [go_sem, decide_true, beq_self_eq_true, List.length_map, List.length_append, Nat.add_zero, Nat.zero_add, he1, hm1] <;> rfl) (by simp only [go_sem] <;> rfl) ?_)
    refine Run.nil ?_
    refine Exec.blk ?_
    refine Exec.forA [1, 2, 3, 7, 8, 9, 10, 11, 42, 43] [3, 55000] ((explainR w).1.length) (fun k => [.slot 43 (.int k)]) (fun _ => True) (fun k => by simp only [go_sem] <;> rfl) (by simp only [go_sem, decide_true, beq_self_eq_true, List.length_map, List.length_append, Nat.add_zero, Nat.zero_add, he1, hm1, markA_zero, Int.natCast_zero] <;> rfl) ?_ (fun k hk hX => ?_)
    · trivial
    · skip
      refine Exec.reg ?_
      refine Run.op (by simp only [go_sem, decide_true, beq_self_eq_true, List.length_map, List.length_append, Nat.add_zero, Nat.zero_add, he1, hm1] <;> rfl) (by simp only [go_sem] <;> rfl) ?_
      refine Run.nil ?_
      refine Exec.cndS (by simp only [go_sem, decide_true, beq_self_eq_true, List.length_map, List.length_append, Nat.add_zero, Nat.zero_add, he1, hm1] <;> rfl) (fun hb44 => ?_) (fun hb44 => ?_)
      · skip
        exact absurd (of_decide_eq_true hb44) (by omega)
      · skip
        refine Exec.exitS ?_
        refine ForK.ext ?_
        refine BlkK.hit ?_
        refine Exec.reg ?_
        refine Run.op (by simp only [go_sem, decide_true, beq_self_eq_true, List.length_map, List.length_append, Nat.add_zero, Nat.zero_add, he1, hm1] <;> rfl) (by simp only [go_sem] <;> rfl) ?_
        refine Run.cal (c_card_Mend w h1 h2 h20) (by simp only [go_sem]) (by simp only [go_sem, decide_true, beq_self_eq_true, List.length_map, List.length_append, Nat.add_zero, Nat.zero_add, he1, hm1] <;> rfl) (by exact ⟨by first | exact WkR.pure rfl | exact WkR.nil _ | exact WkR.int (by first | omega | (simp; done) | (simp; omega)), trivial⟩) (fr0) (by simp only [go_sem, decide_true, beq_self_eq_true, List.length_map, List.length_append, Nat.add_zero, Nat.zero_add, he1, hm1] <;> rfl) ?_
        iterate 5 (refine Run.op (by simp only [go_sem, decide_true, beq_self_eq_true, List.length_map, List.length_append, Nat.add_zero, Nat.zero_add, he1, hm1] <;> rfl) (by simp only [go_sem] <;> rfl) ?_)
        refine Run.nil ?_
        refine Exec.reg ?_
        iterate 2 (refine Run.op (by simp only [go_sem, decide_true, beq_self_eq_true, List.length_map, List.length_append, Nat.add_zero, Nat.zero_add, he1, hm1] <;> rfl) (by simp only [go_sem] <;> rfl) ?_)
        refine Run.op (by simp only [go_sem, decide_true, beq_self_eq_true, List.length_map, List.length_append, Nat.add_zero, Nat.zero_add, he1, hm1]; (try simp (disch := omega) only [if_pos]); (try simp only [go_sem, decide_true, beq_self_eq_true, List.length_map, List.length_append, Nat.add_zero, Nat.zero_add, he1, hm1]) <;> first | (refine ite_run ⟨by (try simp only [List.length_append, List.length_drop, List.length_take, List.length_map, List.length_cons, List.length_nil, List.length_replicate, List.length_set, List.length_range, Nat.zero_add]); omega, by (try simp only [List.length_append, List.length_drop, List.length_take, List.length_map, List.length_cons, List.length_nil, List.length_replicate, List.length_set, List.length_range, Nat.zero_add]); omega, by repeat (first | exact al_nil | assumption | refine al_app ?_ ?_ | refine al_drop ?_ | refine al_take ?_ | exact al_map (fun _ => rfl) | exact al_rep rfl | refine al_cons rfl ?_)⟩ ?_; simp only [go_sem, decide_true, beq_self_eq_true, List.length_map, List.length_append, Nat.add_zero, Nat.zero_add, he1, hm1] <;> rfl) | (refine ite_run ⟨by (try simp only [List.length_append, List.length_drop, List.length_take, List.length_map, List.length_cons, List.length_nil, List.length_replicate, List.length_set, List.length_range, Nat.zero_add]); omega, by repeat (first | exact al_nil | assumption | refine al_app ?_ ?_ | refine al_drop ?_ | refine al_take ?_ | exact al_map (fun _ => rfl) | exact al_rep rfl | refine al_cons rfl ?_)⟩ ?_; simp only [go_sem, decide_true, beq_self_eq_true, List.length_map, List.length_append, Nat.add_zero, Nat.zero_add, he1, hm1] <;> rfl) | rfl) (by simp only [go_sem] <;> rfl) ?_
        refine Run.op (by simp only [go_sem, decide_true, beq_self_eq_true, List.length_map, List.length_append, Nat.add_zero, Nat.zero_add, he1, hm1] <;> rfl) (by simp only [go_sem] <;> rfl) ?_
        refine Run.nil ?_
        refine Exec.assocS ?_
        refine Exec.reg ?_
        refine Run.frz 56 (by simp only [go_sem, take_map_len, take_map_app] <;> rfl) ?_
        iterate 3 (refine Run.op (by simp only [go_sem, decide_true, beq_self_eq_true, List.length_map, List.length_append, Nat.add_zero, Nat.zero_add, he1, hm1] <;> rfl) (by simp only [go_sem] <;> rfl) ?_)
        refine Run.nil ?_
        refine Exec.blk ?_
        refine Exec.forA [1, 2, 3, 7, 8, 10, 11, 13, 14, 15, 60, 61] [3, 79009] ((mendR w).1.length) (fun k => [.slot 61 (.int k)]) (fun _ => True) (fun k => by simp only [go_sem] <;> rfl) (by simp only [go_sem, decide_true, beq_self_eq_true, List.length_map, List.length_append, Nat.add_zero, Nat.zero_add, he1, hm1, markS_zero, Int.natCast_zero] <;> rfl) ?_ (fun k hk hX => ?_)
        · trivial
        · skip
          refine Exec.reg ?_
          refine Run.op (by simp only [go_sem, decide_true, beq_self_eq_true, List.length_map, List.length_append, Nat.add_zero, Nat.zero_add, he1, hm1] <;> rfl) (by simp only [go_sem] <;> rfl) ?_
          refine Run.nil ?_
          refine Exec.cndS (by simp only [go_sem, decide_true, beq_self_eq_true, List.length_map, List.length_append, Nat.add_zero, Nat.zero_add, he1, hm1] <;> rfl) (fun hb62 => ?_) (fun hb62 => ?_)
          · skip
            exact absurd (of_decide_eq_true hb62) (by omega)
          · skip
            refine Exec.exitS ?_
            refine ForK.ext ?_
            refine BlkK.hit ?_
            refine Exec.reg ?_
            refine Run.op (by simp only [go_sem, decide_true, beq_self_eq_true, List.length_map, List.length_append, Nat.add_zero, Nat.zero_add, he1, hm1] <;> rfl) (by simp only [go_sem] <;> rfl) ?_
            refine Run.cal (c_card_Misfit w h1 h2 h20) (by simp only [go_sem]) (by simp only [go_sem, decide_true, beq_self_eq_true, List.length_map, List.length_append, Nat.add_zero, Nat.zero_add, he1, hm1] <;> rfl) (by exact ⟨by first | exact WkR.pure rfl | exact WkR.nil _ | exact WkR.int (by first | omega | (simp; done) | (simp; omega)), trivial⟩) (fr0) (by simp only [go_sem, decide_true, beq_self_eq_true, List.length_map, List.length_append, Nat.add_zero, Nat.zero_add, he1, hm1] <;> rfl) ?_
            refine Run.nil ?_
            refine Exec.reg ?_
            iterate 3 (refine Run.op (by simp only [go_sem, decide_true, beq_self_eq_true, List.length_map, List.length_append, Nat.add_zero, Nat.zero_add, he1, hm1] <;> rfl) (by simp only [go_sem] <;> rfl) ?_)
            refine Run.cal (c_card_Shows w house day h1 h2 h20) (by simp only [go_sem]) (by simp only [go_sem, decide_true, beq_self_eq_true, List.length_map, List.length_append, Nat.add_zero, Nat.zero_add, he1, hm1] <;> rfl) (by exact ⟨by first | exact WkR.pure rfl | exact WkR.nil _ | exact WkR.int (by first | omega | (simp; done) | (simp; omega)), by first | exact WkR.pure rfl | exact WkR.nil _ | exact WkR.int (by first | omega | (simp; done) | (simp; omega)), by first | exact WkR.pure rfl | exact WkR.nil _ | exact WkR.int (by first | omega | (simp; done) | (simp; omega)), trivial⟩) (fr0) (by simp only [go_sem, decide_true, beq_self_eq_true, List.length_map, List.length_append, Nat.add_zero, Nat.zero_add, he1, hm1] <;> rfl) ?_
            refine Run.nil ?_
            refine Exec.reg ?_
            refine Run.op (by simp only [go_sem, decide_true, beq_self_eq_true, List.length_map, List.length_append, Nat.add_zero, Nat.zero_add, he1, hm1] <;> rfl) (by simp only [go_sem] <;> rfl) ?_
            refine Run.cal (c_card_Explain w h1 h2 h20) (by simp only [go_sem]) (by simp only [go_sem, decide_true, beq_self_eq_true, List.length_map, List.length_append, Nat.add_zero, Nat.zero_add, he1, hm1] <;> rfl) (by exact ⟨by first | exact WkR.pure rfl | exact WkR.nil _ | exact WkR.int (by first | omega | (simp; done) | (simp; omega)), trivial⟩) (fr0) (by simp only [go_sem, decide_true, beq_self_eq_true, List.length_map, List.length_append, Nat.add_zero, Nat.zero_add, he1, hm1] <;> rfl) ?_
            iterate 5 (refine Run.op (by simp only [go_sem, decide_true, beq_self_eq_true, List.length_map, List.length_append, Nat.add_zero, Nat.zero_add, he1, hm1] <;> rfl) (by simp only [go_sem] <;> rfl) ?_)
            refine Run.nil ?_
            refine Exec.reg ?_
            refine Run.op (by simp only [go_sem, decide_true, beq_self_eq_true, List.length_map, List.length_append, Nat.add_zero, Nat.zero_add, he1, hm1] <;> rfl) (by simp only [go_sem] <;> rfl) ?_
            refine Run.cal (c_card_Mend w h1 h2 h20) (by simp only [go_sem]) (by simp only [go_sem, decide_true, beq_self_eq_true, List.length_map, List.length_append, Nat.add_zero, Nat.zero_add, he1, hm1] <;> rfl) (by exact ⟨by first | exact WkR.pure rfl | exact WkR.nil _ | exact WkR.int (by first | omega | (simp; done) | (simp; omega)), trivial⟩) (fr0) (by simp only [go_sem, decide_true, beq_self_eq_true, List.length_map, List.length_append, Nat.add_zero, Nat.zero_add, he1, hm1] <;> rfl) ?_
            iterate 5 (refine Run.op (by simp only [go_sem, decide_true, beq_self_eq_true, List.length_map, List.length_append, Nat.add_zero, Nat.zero_add, he1, hm1] <;> rfl) (by simp only [go_sem] <;> rfl) ?_)
            refine Run.nil ?_
            refine Exec.assocS ?_
            refine Exec.reg ?_
            iterate 3 (refine Run.op (by simp only [go_sem, decide_true, beq_self_eq_true, List.length_map, List.length_append, Nat.add_zero, Nat.zero_add, he1, hm1] <;> rfl) (by simp only [go_sem] <;> rfl) ?_)
            refine Run.nil ?_
            refine Exec.blk ?_
            refine Exec.forA [3, 7, 8, 10, 11, 14, 15, 17, 18, 19, 20, 86, 87] [3] (w.rates.length) (fun k => [.slot 87 (.int k)]) (fun _ => True) (fun k => by simp only [go_sem] <;> rfl) (by simp only [go_sem, decide_true, beq_self_eq_true, List.length_map, List.length_append, Nat.add_zero, Nat.zero_add, he1, hm1] <;> rfl) ?_ (fun k hk hX => ?_)
            · trivial
            · skip
              refine Exec.reg ?_
              refine Run.op (by simp only [go_sem, decide_true, beq_self_eq_true, List.length_map, List.length_append, Nat.add_zero, Nat.zero_add, he1, hm1] <;> rfl) (by simp only [go_sem] <;> rfl) ?_
              refine Run.nil ?_
              refine Exec.cndS (by simp only [go_sem, decide_true, beq_self_eq_true, List.length_map, List.length_append, Nat.add_zero, Nat.zero_add, he1, hm1] <;> rfl) (fun hb88 => ?_) (fun hb88 => ?_)
              · skip
                have hlt := lt_of_dec hb88
                have hs := rt_get hlt
                refine Exec.skipS ?_
                refine Exec.blk ?_
                refine Exec.reg ?_
                iterate 2 (refine Run.op (by simp only [go_sem, decide_true, beq_self_eq_true, List.length_map, List.length_append, Nat.add_zero, Nat.zero_add, he1, hm1, hs] <;> rfl) (by simp only [go_sem] <;> rfl) ?_)
                refine Run.nil ?_
                refine Exec.opk 12 ?_
                refine OpenK.op (by simp only [go_sem, decide_true, beq_self_eq_true, List.length_map, List.length_append, Nat.add_zero, Nat.zero_add, he1, hm1, hs] <;> rfl) (by simp only [go_sem] <;> rfl) (by simp only [go_sem] <;> rfl) ?_
                refine OpenK.op (by simp only [go_sem, decide_true, beq_self_eq_true, List.length_map, List.length_append, Nat.add_zero, Nat.zero_add, he1, hm1, hs] <;> rfl) (by simp only [go_sem] <;> rfl) (by simp only [go_sem] <;> rfl) ?_
                refine OpenK.op (by simp only [go_sem, decide_true, beq_self_eq_true, List.length_map, List.length_append, Nat.add_zero, Nat.zero_add, he1, hm1, hs]; (try simp (disch := omega) only [if_pos]); (try simp only [go_sem, decide_true, beq_self_eq_true, List.length_map, List.length_append, Nat.add_zero, Nat.zero_add, he1, hm1, hs])<;> rfl) (by simp only [go_sem] <;> rfl) (by simp only [go_sem] <;> rfl) ?_
                refine OpenK.op (by simp only [go_sem, decide_true, beq_self_eq_true, List.length_map, List.length_append, Nat.add_zero, Nat.zero_add, he1, hm1, hs] <;> rfl) (by simp only [go_sem] <;> rfl) (by simp only [go_sem] <;> rfl) ?_
                refine OpenK.op (by simp only [go_sem, decide_true, beq_self_eq_true, List.length_map, List.length_append, Nat.add_zero, Nat.zero_add, he1, hm1, hs] <;> rfl) (by simp only [go_sem] <;> rfl) (by simp only [go_sem] <;> rfl) ?_
                refine OpenK.op (by simp only [go_sem, decide_true, beq_self_eq_true, List.length_map, List.length_append, Nat.add_zero, Nat.zero_add, he1, hm1, hs] <;> rfl) (by simp only [go_sem] <;> rfl) (by simp only [go_sem] <;> rfl) ?_
                refine OpenK.op (by simp only [go_sem, decide_true, beq_self_eq_true, List.length_map, List.length_append, Nat.add_zero, Nat.zero_add, he1, hm1, hs] <;> rfl) (by simp only [go_sem] <;> rfl) (by simp only [go_sem] <;> rfl) ?_
                refine OpenK.op (by simp only [go_sem, decide_true, beq_self_eq_true, List.length_map, List.length_append, Nat.add_zero, Nat.zero_add, he1, hm1, hs]; (try simp (disch := omega) only [if_pos]); (try simp only [go_sem, decide_true, beq_self_eq_true, List.length_map, List.length_append, Nat.add_zero, Nat.zero_add, he1, hm1, hs])<;> rfl) (by simp only [go_sem] <;> rfl) (by simp only [go_sem] <;> rfl) ?_
                refine OpenK.op (by simp only [go_sem, decide_true, beq_self_eq_true, List.length_map, List.length_append, Nat.add_zero, Nat.zero_add, he1, hm1, hs] <;> rfl) (by simp only [go_sem] <;> rfl) (by simp only [go_sem] <;> rfl) ?_
                refine OpenK.op (by simp only [go_sem, decide_true, beq_self_eq_true, List.length_map, List.length_append, Nat.add_zero, Nat.zero_add, he1, hm1, hs] <;> rfl) (by simp only [go_sem] <;> rfl) (by simp only [go_sem] <;> rfl) ?_
                refine OpenK.nil (OpenE.fin (by decide +kernel) (by decide +kernel) ?_)
                refine Exec.cnd (by simp only [go_sem, decide_true, beq_self_eq_true, List.length_map, List.length_append, Nat.add_zero, Nat.zero_add, he1, hm1, hs] <;> rfl) (fun hb99 => ?_) (fun hb99 => ?_)
                · skip
                  exact absurd hb99 (by simp)
                · skip
                  refine BlkK.nrm ?_
                  refine Exec.reg1 ?_
                  refine Run.op (by simp only [go_sem, decide_true, beq_self_eq_true, List.length_map, List.length_append, Nat.add_zero, Nat.zero_add, he1, hm1, hs]; (try simp (disch := omega) only [IntWalk.i64_in, if_neg, if_pos])<;> rfl) (by simp only [go_sem] <;> rfl) ?_
                  refine Run.op (by simp only [go_sem, decide_true, beq_self_eq_true, List.length_map, List.length_append, Nat.add_zero, Nat.zero_add, he1, hm1, hs] <;> rfl) (by simp only [go_sem] <;> rfl) ?_
                  refine Run.nil ?_
                  refine ForK.nxt ?_ ?_ ?_
                  · omega
                  · exact Ghost.kp [3, 7, 8, 10, 11, 14, 15, 17, 18, 19, 20, 86, 87] [3] (by simp only [go_sem, decide_true, beq_self_eq_true, List.length_map, List.length_append, Nat.add_zero, Nat.zero_add, he1, hm1, hs]; first | ((repeat' (first | with_reducible_and_instances rfl | refine st_eq ?_ ?_ ?_ | refine ret_eq ?_ | refine tup_eq ?_ | refine tm_eq ?_ ?_ | refine arr_eq ?_ | refine cells_eq ?_ | refine val_eq ?_ | refine ls_eq ?_ ?_ | refine own_eq ?_ ?_ | refine sl_eq ?_ | refine b_eq ?_ | (refine i_eq ?_; omega))); done) | rfl)
                  · trivial
              · skip
                refine Exec.exitS ?_
                refine ForK.ext ?_
                refine BlkK.hit ?_
                refine Exec.reg ?_
                iterate 3 (refine Run.op (by simp only [go_sem, decide_true, beq_self_eq_true, List.length_map, List.length_append, Nat.add_zero, Nat.zero_add, he1, hm1] <;> rfl) (by simp only [go_sem] <;> rfl) ?_)
                refine Run.cal (c_meterworksref12_Readings w.readings w.readings h2 h2) (by simp only [go_sem]) (by simp only [go_sem, decide_true, beq_self_eq_true, List.length_map, List.length_append, Nat.add_zero, Nat.zero_add, he1, hm1] <;> rfl) (by exact ⟨by first | exact WkR.pure rfl | exact WkR.nil _ | exact WkR.int (by first | omega | (simp; done) | (simp; omega)), by first | exact WkR.pure rfl | exact WkR.nil _ | exact WkR.int (by first | omega | (simp; done) | (simp; omega)), trivial⟩) (fr0) (by simp only [go_sem, decide_true, beq_self_eq_true, List.length_map, List.length_append, Nat.add_zero, Nat.zero_add, he1, hm1] <;> rfl) ?_
                refine Run.op (by simp only [go_sem, decide_true, beq_self_eq_true, List.length_map, List.length_append, Nat.add_zero, Nat.zero_add, he1, hm1] <;> rfl) (by simp only [go_sem] <;> rfl) ?_
                refine Run.yes (by simp only [go_sem] <;> rfl) (by simp only [go_sem, decide_true, beq_self_eq_true, List.length_map, List.length_append, Nat.add_zero, Nat.zero_add, he1, hm1] <;> rfl) (by simp only [go_sem] <;> rfl) ?_
                refine Run.yes (by simp only [go_sem] <;> rfl) (by simp only [go_sem, decide_true, beq_self_eq_true, List.length_map, List.length_append, Nat.add_zero, Nat.zero_add, he1, hm1] <;> rfl) (by simp only [go_sem] <;> rfl) ?_
                refine Run.calw (by simp only [go_sem] <;> rfl) (c_meterworksref12_Repairs [] [] (by decide) (by decide)) (by simp only [go_sem]) (by simp only [go_sem, decide_true, beq_self_eq_true, List.length_map, List.length_append, Nat.add_zero, Nat.zero_add, he1, hm1] <;> rfl) (by simp only [go_sem, decide_true, beq_self_eq_true, List.length_map, List.length_append, Nat.add_zero, Nat.zero_add, he1, hm1] <;> rfl) (by exact ⟨by first | exact WkR.pure rfl | exact WkR.nil _ | exact WkR.int (by first | omega | (simp; done) | (simp; omega)), by first | exact WkR.pure rfl | exact WkR.nil _ | exact WkR.int (by first | omega | (simp; done) | (simp; omega)), trivial⟩) (fr0) (by simp only [go_sem, decide_true, beq_self_eq_true, List.length_map, List.length_append, Nat.add_zero, Nat.zero_add, he1, hm1] <;> rfl) ?_
                iterate 2 (refine Run.op (by simp only [go_sem, decide_true, beq_self_eq_true, List.length_map, List.length_append, Nat.add_zero, Nat.zero_add, he1, hm1] <;> rfl) (by simp only [go_sem] <;> rfl) ?_)
                refine Run.yes (by simp only [go_sem] <;> rfl) (by simp only [go_sem, decide_true, beq_self_eq_true, List.length_map, List.length_append, Nat.add_zero, Nat.zero_add, he1, hm1] <;> rfl) (by simp only [go_sem] <;> rfl) ?_
                refine Run.yes (by simp only [go_sem] <;> rfl) (by simp only [go_sem, decide_true, beq_self_eq_true, List.length_map, List.length_append, Nat.add_zero, Nat.zero_add, he1, hm1] <;> rfl) (by simp only [go_sem] <;> rfl) ?_
                refine Run.yes (by simp only [go_sem] <;> rfl) (by simp only [go_sem, decide_true, beq_self_eq_true, List.length_map, List.length_append, Nat.add_zero, Nat.zero_add, he1, hm1] <;> rfl) (by simp only [go_sem] <;> rfl) ?_
                iterate 2 (refine Run.op (by simp only [go_sem, decide_true, beq_self_eq_true, List.length_map, List.length_append, Nat.add_zero, Nat.zero_add, he1, hm1] <;> rfl) (by simp only [go_sem] <;> rfl) ?_)
                refine Run.yes (by simp only [go_sem] <;> rfl) (by simp only [go_sem, decide_true, beq_self_eq_true, List.length_map, List.length_append, Nat.add_zero, Nat.zero_add, he1, hm1] <;> rfl) (by simp only [go_sem] <;> rfl) ?_
                refine Run.yes (by simp only [go_sem] <;> rfl) (by simp only [go_sem, decide_true, beq_self_eq_true, List.length_map, List.length_append, Nat.add_zero, Nat.zero_add, he1, hm1] <;> rfl) (by simp only [go_sem] <;> rfl) ?_
                refine Run.calw (by simp only [go_sem] <;> rfl) (c_meterworksref12_Readings [] [] (by decide) (by decide)) (by simp only [go_sem]) (by simp only [go_sem, decide_true, beq_self_eq_true, List.length_map, List.length_append, Nat.add_zero, Nat.zero_add, he1, hm1] <;> rfl) (by simp only [go_sem, decide_true, beq_self_eq_true, List.length_map, List.length_append, Nat.add_zero, Nat.zero_add, he1, hm1] <;> rfl) (by exact ⟨by first | exact WkR.pure rfl | exact WkR.nil _ | exact WkR.int (by first | omega | (simp; done) | (simp; omega)), by first | exact WkR.pure rfl | exact WkR.nil _ | exact WkR.int (by first | omega | (simp; done) | (simp; omega)), trivial⟩) (fr0) (by simp only [go_sem, decide_true, beq_self_eq_true, List.length_map, List.length_append, Nat.add_zero, Nat.zero_add, he1, hm1] <;> rfl) ?_
                iterate 2 (refine Run.op (by simp only [go_sem, decide_true, beq_self_eq_true, List.length_map, List.length_append, Nat.add_zero, Nat.zero_add, he1, hm1] <;> rfl) (by simp only [go_sem] <;> rfl) ?_)
                refine Run.yes (by simp only [go_sem] <;> rfl) (by simp only [go_sem, decide_true, beq_self_eq_true, List.length_map, List.length_append, Nat.add_zero, Nat.zero_add, he1, hm1] <;> rfl) (by simp only [go_sem] <;> rfl) ?_
                refine Run.yes (by simp only [go_sem] <;> rfl) (by simp only [go_sem, decide_true, beq_self_eq_true, List.length_map, List.length_append, Nat.add_zero, Nat.zero_add, he1, hm1] <;> rfl) (by simp only [go_sem] <;> rfl) ?_
                refine Run.yes (by simp only [go_sem] <;> rfl) (by simp only [go_sem, decide_true, beq_self_eq_true, List.length_map, List.length_append, Nat.add_zero, Nat.zero_add, he1, hm1] <;> rfl) (by simp only [go_sem] <;> rfl) ?_
                iterate 2 (refine Run.op (by simp only [go_sem, decide_true, beq_self_eq_true, List.length_map, List.length_append, Nat.add_zero, Nat.zero_add, he1, hm1] <;> rfl) (by simp only [go_sem] <;> rfl) ?_)
                refine Run.calw (by simp only [go_sem] <;> rfl) (c_law_alive) (by simp only [go_sem]) (by simp only [go_sem, decide_true, beq_self_eq_true, List.length_map, List.length_append, Nat.add_zero, Nat.zero_add, he1, hm1] <;> rfl) (by simp only [go_sem, decide_true, beq_self_eq_true, List.length_map, List.length_append, Nat.add_zero, Nat.zero_add, he1, hm1] <;> rfl) (by exact trivial) (fr0) (by simp only [go_sem, decide_true, beq_self_eq_true, List.length_map, List.length_append, Nat.add_zero, Nat.zero_add, he1, hm1] <;> rfl) ?_
                iterate 2 (refine Run.op (by simp only [go_sem, decide_true, beq_self_eq_true, List.length_map, List.length_append, Nat.add_zero, Nat.zero_add, he1, hm1] <;> rfl) (by simp only [go_sem] <;> rfl) ?_)
                refine Run.nil ?_
                exact Ends.fin [] (rs := [.tmp 6]) rfl (by simp only [go_sem, decide_true, beq_self_eq_true, List.length_map, List.length_append, Nat.add_zero, Nat.zero_add, he1, hm1] <;> rfl) (by simp only [go_sem, decide_true, beq_self_eq_true, List.length_map, List.length_append, Nat.add_zero, Nat.zero_add, he1, hm1] <;> first | rfl | ((repeat' (first | with_reducible_and_instances rfl | refine st_eq ?_ ?_ ?_ | refine ret_eq ?_ | refine tup_eq ?_ | refine tm_eq ?_ ?_ | refine arr_eq ?_ | refine cells_eq ?_ | refine val_eq ?_ | refine ls_eq ?_ ?_ | refine own_eq ?_ ?_ | refine sl_eq ?_ | refine b_eq ?_ | (refine i_eq ?_; omega))); done))

theorem c_law_CardOwns (w : Walk) (house day : Int) : Contract Try.prog 11 [walkV w, .int house, .int day] (.bool true) [] := by
  rcases Classical.em ((explainR w).2 = 0) with he | he
  · rcases Classical.em ((mendR w).2 = 0) with hm | hm
    · exact c_law_CardOwns_0 w house day he hm
    · exact c_law_CardOwns_1 w house day he hm
  · exact c_law_CardOwns_2 w house day he
end Go.Mw
namespace Go.Mw
open Go.RowKit Go.ChangeShapes Go.WideShapes

section
variable {H : Type} {enc : TypeId × Value → H} {P : Program} {w : World} {base : Nat} {spare : Nat → Bool} {held : Bool} {v : Value} {d : DataW H} {ps : List MemPlace} {t : TypeId}
theorem trodAll_five {t0 t1 t2 t3 t4 : TypeId} {args : Array Value} {ds : List (DataW H)} (h : DataW.TrodAll enc P w base spare held [t0, t1, t2, t3, t4] args.toList ds ps) :
    ∃ v0 v1 v2 v3 v4 d0 d1 d2 d3 d4 p0 p1 p2 p3 p4, args = #[v0, v1, v2, v3, v4] ∧ ds = [d0, d1, d2, d3, d4] ∧ ps = p0 ++ p1 ++ p2 ++ p3 ++ p4 ∧ DataW.Trod enc P w base spare held t0 v0 d0 p0 ∧ DataW.Trod enc P w base spare held t1 v1 d1 p1 ∧
      DataW.Trod enc P w base spare held t2 v2 d2 p2 ∧ DataW.Trod enc P w base spare held t3 v3 d3 p3 ∧ DataW.Trod enc P w base spare held t4 v4 d4 p4 := by
  obtain ⟨v0, vs0, d0, ds0, p0, q0, hargs, rfl, rfl, h0, h⟩ := trodAll_cons h
  obtain ⟨v1, vs1, d1, ds1, p1, q1, rfl, rfl, rfl, h1, h⟩ := trodAll_cons h
  obtain ⟨v2, vs2, d2, ds2, p2, q2, rfl, rfl, rfl, h2, h⟩ := trodAll_cons h
  obtain ⟨v3, vs3, d3, ds3, p3, q3, rfl, rfl, rfl, h3, h⟩ := trodAll_cons h
  obtain ⟨v4, vs4, d4, ds4, p4, q4, rfl, rfl, rfl, h4, h⟩ := trodAll_cons h
  obtain ⟨rfl, rfl, rfl⟩ := trodAll_nil h
  exact ⟨v0, v1, v2, v3, v4, d0, d1, d2, d3, d4, p0, p1, p2, p3, p4, by cases args; simp_all, rfl, by simp, h0, h1, h2, h3, h4⟩
theorem int_read {k : IntKind} {b0 : Nat} {r : Reach} (ht : P.underlying t = some (.int k)) (hv : Value.okWide P w r b0 t v) (h : DataW.Trod enc P w base spare held t v d ps) :
    ∃ n : Int, (Lit.int k n).wf = true ∧ RepV (fun b _ => b < w.heap.size) noVal (look []) w (.leaf (.d (.raw (.int k n)))) v := by
  obtain ⟨n, rfl, _, _, hw⟩ := open_int ht hv h
  exact ⟨n, hw, _, rfl, .raw _ rfl⟩
theorem u8_read {b0 : Nat} {r : Reach} (ht : P.underlying t = some (.int .u8)) (hv : Value.okWide P w r b0 t v) (h : DataW.Trod enc P w base spare held t v d ps) :
    ∃ n : Nat, n ≤ 255 ∧ RepV (fun b _ => b < w.heap.size) noVal (look []) w (.leaf (.d (.raw (.int .u8 (n : Int))))) v := by
  obtain ⟨n, hw, hr⟩ := int_read ht hv h
  have h2 : 0 ≤ n ∧ n ≤ 255 := by
    simp only [Lit.wf, Bool.and_eq_true, decide_eq_true_eq] at hw
    have e1 : IntKind.u8.min = 0 := by decide
    have e2 : IntKind.u8.max = 255 := by decide
    omega
  refine ⟨n.toNat, by omega, ?_⟩
  rw [show ((n.toNat : Nat) : Int) = n by omega]
  exact hr
/-- A slice of plain cells, as an argument. -/
theorem sl_read {e : TypeId} {ks : List LK} (ht : P.underlying t = some (.slice e)) (hk : flatK P e = some ks) (hc : P.cellsOf e = ks.length) (h0 : 0 < ks.length) {b0 : Nat} {r : Reach} (hv : Value.okWide P w r b0 t v) (h : DataW.Trod enc P w base spare held t v d ps) :
    ∃ rows : List (List Value), (∀ r ∈ rows, All2 LK.has ks r) ∧ RepV (fun b _ => b < w.heap.size) noVal (look []) w (.leaf (.d (.sl ks.length (rows.map (·.map .raw))))) v := by
  obtain ⟨fuel, hf⟩ := h
  obtain ⟨u, rows, e1, hr, hd⟩ := slice_read ht hk hc h0 hf
  have hvu : v = u := by
    unfold Value.okWide at hv
    rw [ht] at hv
    simp only [Cell.okWide, ht] at hv
    cases v <;> first | (simp only [Value.cells] at e1; exact (List.cons.inj e1).1) | (simp [Cell.ok, ht] at hv)
  subst hvu
  exact ⟨rows, hr, _, rfl, hd⟩
end
end Go.Mw
namespace Go.Mw
open Go.Proofs Go.RowKit Go.ChangeShapes Go.WideShapes

@[go_sem] def encU16 (n : Nat) : List D := [.raw (.int .u16 (n : Int))]
theorem read_u16 (r : List Value) (h : All2 LK.has [.int .u16] r) : ∃ n : Nat, n ≤ 65535 ∧ r.map D.raw = encU16 n := by
  obtain ⟨a, r, rfl, ⟨n, hn, hw⟩, h⟩ := all2_inv h
  have := all2_nil h
  subst hn this
  have h2 : 0 ≤ n ∧ n ≤ 65535 := by
    simp only [Lit.wf, Bool.and_eq_true, decide_eq_true_eq] at hw
    have e1 : IntKind.u16.min = 0 := by decide
    have e2 : IntKind.u16.max = 65535 := by decide
    omega
  refine ⟨n.toNat, by omega, ?_⟩
  show [D.raw (.int .u16 n)] = [D.raw (.int .u16 ((n.toNat : Nat) : Int))]
  rw [show ((n.toNat : Nat) : Int) = n by omega]
theorem rows_u16 : ∀ {rows : List (List Value)}, (∀ r ∈ rows, All2 LK.has [.int .u16] r) → ∃ l : List Nat, (∀ n ∈ l, n ≤ 65535) ∧ rows.map (·.map D.raw) = l.map encU16
  | [], _ => ⟨[], by simp, rfl⟩
  | r :: rows, h => by
    obtain ⟨n, hn, hr⟩ := read_u16 r (h r (by simp))
    obtain ⟨l, hl, hl2⟩ := rows_u16 (rows := rows) fun q hq => h q (List.mem_cons_of_mem _ hq)
    refine ⟨n :: l, fun m hm => ?_, by rw [List.map_cons, List.map_cons, hr, hl2]⟩
    rcases List.mem_cons.1 hm with rfl | hm
    · exact hn
    · exact hl m hm
section
variable {H : Type} {enc : TypeId × Value → H} {W : World} {v : Value} {d : DataW H} {ps : List MemPlace}
set_option maxRecDepth 20000 in
theorem spans_read {b0 : Nat} {r : Reach} (hv : Value.okWide Try.prog W r b0 22 v) (h : DataW.Trod enc Try.prog W 0 (fun _ => true) true 22 v d ps) :
    ∃ l : List Span, RepV (fun b _ => b < W.heap.size) noVal (look []) W (.leaf (.d (.sl 2 (l.map encSpan)))) v := by
  obtain ⟨rows, hr, hd⟩ := sl_read (P := Try.prog) (e := 32) (ks := [.int .i64, .int .i64]) (by kernel_rfl) (by kernel_rfl) (by kernel_rfl) (by decide) hv h
  obtain ⟨l, hl⟩ := rows_enc read_span hr
  rw [hl] at hd
  exact ⟨l, hd⟩
set_option maxRecDepth 20000 in
theorem u16s_read {b0 : Nat} {r : Reach} (hv : Value.okWide Try.prog W r b0 53 v) (h : DataW.Trod enc Try.prog W 0 (fun _ => true) true 53 v d ps) :
    ∃ l : List Nat, (∀ n ∈ l, n ≤ 65535) ∧ RepV (fun b _ => b < W.heap.size) noVal (look []) W (.leaf (.d (.sl 1 (l.map encU16)))) v := by
  obtain ⟨rows, hr, hd⟩ := sl_read (P := Try.prog) (e := 88) (ks := [.int .u16]) (by kernel_rfl) (by kernel_rfl) (by kernel_rfl) (by decide) hv h
  obtain ⟨l, hl, hl2⟩ := rows_u16 hr
  rw [hl2] at hd
  exact ⟨l, hl, hd⟩
end
end Go.Mw

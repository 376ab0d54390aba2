/- The statements about the card. -/
import Derived.Test.YtfmdonllhchdpaaB9
set_option linter.unusedSimpArgs false
set_option linter.unusedVariables false
set_option linter.unusedSectionVars false
set_option linter.deprecated false
namespace Go.Mw
open Go.Proofs
theorem great_no {w : Walk} {n : Int} (h : greatB w n = false) : (w.rates.length ≤ 14 ∧ w.readings.length ≤ 32) ∧ ((w.readings.length : Int) ≤ n ∨ 24 < w.readings.length) := by
  unfold greatB at h
  simp only [Bool.or_eq_false_iff, Bool.and_eq_false_iff, decide_eq_false_iff_not] at h
  omega
theorem h20_great {w : Walk} {n : Int} (h : greatB w n = false) (hn : n ≤ 20) : walkB w = true → ∀ h, (ofS w h).length ≤ 20 := fun hw => by
  have h1 := great_no h
  have h2 := walk_len hw
  exact h20_of (by omega)
theorem len_all {w : Walk} (hw : walkB w = true) : (allS w).length ≤ 1000 := by
  have hn := (walk_len hw).2.2
  have b1 := len_swN hn w.readings.length
  have b2 := len_cpN w w.readings.length
  have b3 := len_ltN w w.readings.length
  unfold allS
  rw [List.length_append, List.length_append]
  omega
theorem len_expl (w : Walk) : (explainR w).1.length ≤ 1000 := by
  unfold explainR
  split
  · rename_i hw
    split
    · simp
    · split
      · simp
      · exact len_all hw
  · simp
theorem len_mend {w : Walk} (h : w.readings.length ≤ 1000) : (mendR w).1.length ≤ 1000 := by
  unfold mendR
  split
  · rename_i he
    obtain ⟨hw, hl, _⟩ := expl_zero he
    split
    · simp
    · rename_i x hx
      rw [hl] at hx
      obtain ⟨m, hm, _⟩ := all_made (x := x) (by rw [hx]; simp)
      have := (made_ok hw hm).2.2
      simp only [hm, Option.getD_some]
      omega
    · simp
  · simp
set_option maxRecDepth 20000 in
set_option maxHeartbeats 4000000 in
/-- meterworks/meterworkslaw12.CardExplains -/
theorem c_law_CardExplains (w : Walk) : Contract Try.prog 4 [walkV w] (.bool true) [] := by
  refine con_of follows_mixed Try.func4 rfl (by simp only [List.length_cons, List.length_nil, Try.ntmps4]; omega) (by kernel_rfl) rfl ?_
  refine Exec.reg ?_
  iterate 2 (refine Run.op (by simp only [go_sem] <;> rfl) (by simp only [go_sem] <;> rfl) ?_)
  refine Run.nil ?_
  refine Exec.assocS ?_
  refine Exec.reg ?_
  refine Run.op (by simp only [go_sem] <;> rfl) (by simp only [go_sem] <;> rfl) ?_
  refine Run.cal (c_law_great w 10) (by simp only [go_sem]) (by simp only [go_sem] <;> rfl) (by exact ⟨by first | exact WkR.pure rfl | exact WkR.nil _ | exact WkR.int (by first | omega | (simp; done) | (simp; omega)), by first | exact WkR.pure rfl | exact WkR.nil _ | exact WkR.int (by first | omega | (simp; done) | (simp; omega)), trivial⟩) (fr0) (by simp only [go_sem] <;> rfl) ?_
  refine Run.nil ?_
  refine Exec.cndS (by simp only [go_sem] <;> rfl) (fun hb12 => ?_) (fun hb12 => ?_)
  · skip
    refine Exec.assocS ?_
    refine Exec.reg ?_
    refine Run.cal (c_law_alive) (by simp only [go_sem]) (by simp only [go_sem] <;> rfl) (by exact trivial) (fr0) (by simp only [go_sem] <;> rfl) ?_
    refine Run.op (by simp only [go_sem] <;> rfl) (by simp only [go_sem] <;> rfl) ?_
    refine Run.nil ?_
    refine Exec.retS ?_
    exact Ends.fin [] (rs := [.tmp 2]) rfl (by simp only [go_sem] <;> rfl) (by simp only [go_sem] <;> first | rfl | ((repeat' (first | with_reducible_and_instances rfl | refine st_eq ?_ ?_ ?_ | refine ret_eq ?_ | refine tup_eq ?_ | refine tm_eq ?_ ?_ | refine arr_eq ?_ | refine cells_eq ?_ | refine val_eq ?_ | refine ls_eq ?_ ?_ | refine own_eq ?_ ?_ | refine sl_eq ?_ | refine b_eq ?_ | (refine i_eq ?_; omega))); done))
  · skip
    have hg := great_no hb12
    have h1 : w.rates.length ≤ 1000 := by omega
    have h2 : w.readings.length ≤ 1000 := by omega
    have h20 := h20_great hb12 (by omega)
    refine Exec.skipS ?_
    refine Exec.reg ?_
    refine Run.op (by simp only [go_sem, decide_true, beq_self_eq_true] <;> rfl) (by simp only [go_sem] <;> rfl) ?_
    refine Run.cal (c_card_Explain w h1 h2 h20) (by simp only [go_sem]) (by simp only [go_sem, decide_true, beq_self_eq_true] <;> rfl) (by exact ⟨by first | exact WkR.pure rfl | exact WkR.nil _ | exact WkR.int (by first | omega | (simp; done) | (simp; omega)), trivial⟩) (fr0) (by simp only [go_sem, decide_true, beq_self_eq_true] <;> rfl) ?_
    iterate 5 (refine Run.op (by simp only [go_sem, decide_true, beq_self_eq_true] <;> rfl) (by simp only [go_sem] <;> rfl) ?_)
    refine Run.nil ?_
    refine Exec.reg ?_
    refine Run.op (by simp only [go_sem, decide_true, beq_self_eq_true] <;> rfl) (by simp only [go_sem] <;> rfl) ?_
    refine Run.cal (c_meterworksref12_Explain w h1 h2) (by simp only [go_sem]) (by simp only [go_sem, decide_true, beq_self_eq_true] <;> rfl) (by exact ⟨by first | exact WkR.pure rfl | exact WkR.nil _ | exact WkR.int (by first | omega | (simp; done) | (simp; omega)), trivial⟩) (fr0) (by simp only [go_sem, decide_true, beq_self_eq_true] <;> rfl) ?_
    iterate 5 (refine Run.op (by simp only [go_sem, decide_true, beq_self_eq_true] <;> rfl) (by simp only [go_sem] <;> rfl) ?_)
    refine Run.nil ?_
    refine Exec.reg ?_
    refine Run.op (by simp only [go_sem, decide_true, beq_self_eq_true] <;> rfl) (by simp only [go_sem] <;> rfl) ?_
    refine Run.cal (c_card_Mend w h1 h2 h20) (by simp only [go_sem]) (by simp only [go_sem, decide_true, beq_self_eq_true] <;> rfl) (by exact ⟨by first | exact WkR.pure rfl | exact WkR.nil _ | exact WkR.int (by first | omega | (simp; done) | (simp; omega)), trivial⟩) (fr0) (by simp only [go_sem, decide_true, beq_self_eq_true] <;> rfl) ?_
    iterate 5 (refine Run.op (by simp only [go_sem, decide_true, beq_self_eq_true] <;> rfl) (by simp only [go_sem] <;> rfl) ?_)
    refine Run.nil ?_
    refine Exec.reg ?_
    refine Run.op (by simp only [go_sem, decide_true, beq_self_eq_true] <;> rfl) (by simp only [go_sem] <;> rfl) ?_
    refine Run.cal (c_meterworksref12_Mend w h1 h2) (by simp only [go_sem]) (by simp only [go_sem, decide_true, beq_self_eq_true] <;> rfl) (by exact ⟨by first | exact WkR.pure rfl | exact WkR.nil _ | exact WkR.int (by first | omega | (simp; done) | (simp; omega)), trivial⟩) (fr0) (by simp only [go_sem, decide_true, beq_self_eq_true] <;> rfl) ?_
    iterate 5 (refine Run.op (by simp only [go_sem, decide_true, beq_self_eq_true] <;> rfl) (by simp only [go_sem] <;> rfl) ?_)
    refine Run.nil ?_
    refine Exec.reg ?_
    iterate 2 (refine Run.op (by simp only [go_sem, decide_true, beq_self_eq_true] <;> rfl) (by simp only [go_sem] <;> rfl) ?_)
    refine Run.cal (c_meterworksref12_Repairs _ _ (len_expl w) (len_expl w)) (by simp only [go_sem]) (by simp only [go_sem, decide_true, beq_self_eq_true] <;> rfl) (by exact ⟨by first | exact WkR.pure rfl | exact WkR.nil _ | exact WkR.int (by first | omega | (simp; done) | (simp; omega)), by first | exact WkR.pure rfl | exact WkR.nil _ | exact WkR.int (by first | omega | (simp; done) | (simp; omega)), trivial⟩) (fr0) (by simp only [go_sem, decide_true, beq_self_eq_true] <;> rfl) ?_
    refine Run.op (by simp only [go_sem, decide_true, beq_self_eq_true] <;> rfl) (by simp only [go_sem] <;> rfl) ?_
    refine Run.yes (by simp only [go_sem] <;> rfl) (by simp only [go_sem, decide_true, beq_self_eq_true] <;> rfl) (by simp only [go_sem] <;> rfl) ?_
    refine Run.yes (by simp only [go_sem] <;> rfl) (by simp only [go_sem, decide_true, beq_self_eq_true] <;> rfl) (by simp only [go_sem] <;> rfl) ?_
    refine Run.yes (by simp only [go_sem] <;> rfl) (by simp only [go_sem, decide_true, beq_self_eq_true] <;> rfl) (by simp only [go_sem] <;> rfl) ?_
    iterate 2 (refine Run.op (by simp only [go_sem, decide_true, beq_self_eq_true] <;> rfl) (by simp only [go_sem] <;> rfl) ?_)
    refine Run.yes (by simp only [go_sem] <;> rfl) (by simp only [go_sem, decide_true, beq_self_eq_true] <;> rfl) (by simp only [go_sem] <;> rfl) ?_
    refine Run.yes (by simp only [go_sem] <;> rfl) (by simp only [go_sem, decide_true, beq_self_eq_true] <;> rfl) (by simp only [go_sem] <;> rfl) ?_
    refine Run.calw (by simp only [go_sem] <;> rfl) (c_meterworksref12_Readings _ _ (len_mend h2) (len_mend h2)) (by simp only [go_sem]) (by simp only [go_sem, decide_true, beq_self_eq_true] <;> rfl) (by simp only [go_sem, decide_true, beq_self_eq_true] <;> rfl) (by exact ⟨by first | exact WkR.pure rfl | exact WkR.nil _ | exact WkR.int (by first | omega | (simp; done) | (simp; omega)), by first | exact WkR.pure rfl | exact WkR.nil _ | exact WkR.int (by first | omega | (simp; done) | (simp; omega)), trivial⟩) (fr0) (by simp only [go_sem, decide_true, beq_self_eq_true] <;> rfl) ?_
    iterate 2 (refine Run.op (by simp only [go_sem, decide_true, beq_self_eq_true] <;> rfl) (by simp only [go_sem] <;> rfl) ?_)
    refine Run.yes (by simp only [go_sem] <;> rfl) (by simp only [go_sem, decide_true, beq_self_eq_true] <;> rfl) (by simp only [go_sem] <;> rfl) ?_
    refine Run.yes (by simp only [go_sem] <;> rfl) (by simp only [go_sem, decide_true, beq_self_eq_true] <;> rfl) (by simp only [go_sem] <;> rfl) ?_
    refine Run.yes (by simp only [go_sem] <;> rfl) (by simp only [go_sem, decide_true, beq_self_eq_true] <;> rfl) (by simp only [go_sem] <;> rfl) ?_
    iterate 2 (refine Run.op (by simp only [go_sem, decide_true, beq_self_eq_true] <;> rfl) (by simp only [go_sem] <;> rfl) ?_)
    refine Run.calw (by simp only [go_sem] <;> rfl) (c_law_alive) (by simp only [go_sem]) (by simp only [go_sem, decide_true, beq_self_eq_true] <;> rfl) (by simp only [go_sem, decide_true, beq_self_eq_true] <;> rfl) (by exact trivial) (fr0) (by simp only [go_sem, decide_true, beq_self_eq_true] <;> rfl) ?_
    iterate 2 (refine Run.op (by simp only [go_sem, decide_true, beq_self_eq_true] <;> rfl) (by simp only [go_sem] <;> rfl) ?_)
    refine Run.nil ?_
    exact Ends.fin [] (rs := [.tmp 2]) rfl (by simp only [go_sem, decide_true, beq_self_eq_true] <;> rfl) (by simp only [go_sem, decide_true, beq_self_eq_true] <;> first | rfl | ((repeat' (first | with_reducible_and_instances rfl | refine st_eq ?_ ?_ ?_ | refine ret_eq ?_ | refine tup_eq ?_ | refine tm_eq ?_ ?_ | refine arr_eq ?_ | refine cells_eq ?_ | refine val_eq ?_ | refine ls_eq ?_ ?_ | refine own_eq ?_ ?_ | refine sl_eq ?_ | refine b_eq ?_ | (refine i_eq ?_; omega))); done))

end Go.Mw
namespace Go.Mw
open Go.Proofs
def namQ : List (Int × Span) := [(5, ⟨85, 95⟩), (20, ⟨120, 120⟩), (32, ⟨142, 146⟩)]
@[go_sem] def encQ (x : Int × Span) : List D := [.i x.1, .i x.2.lo, .i x.2.hi]
theorem nam_all : ∀ x ∈ namQ, showsR smpG 0 x.1 = (x.2, 0) := by decide +kernel
theorem exp_al2 : explainR (aloW [100, 100, 140]) = ([⟨1, 1, 0, 0⟩], 0) := by decide +kernel
theorem exp_al3 : explainR (aloW [100, 300]) = ([], 6) := by decide +kernel
theorem exp_smg : explainR smpG = ([], 4) := by decide +kernel
theorem namQ_eq : [[D.i 5, D.i 85, D.i 95], [D.i 20, D.i 120, D.i 120], [D.i 32, D.i 142, D.i 146]] = namQ.map encQ := rfl
set_option maxRecDepth 20000 in
set_option maxHeartbeats 16000000 in
/-- meterworks/meterworkslaw12.CardNames -/
theorem c_law_CardNames : Contract Try.prog 5 [] (.bool true) [] := by
  have n3 : (smpG).rates.length ≤ 1000 ∧ (smpG).readings.length ≤ 1000 ∧ ∀ h, (ofS (smpG) h).length ≤ 20 := ⟨by decide, by decide, h20_of (by decide)⟩
  have n4 : (aloW [100, 100, 140]).rates.length ≤ 1000 ∧ (aloW [100, 100, 140]).readings.length ≤ 1000 ∧ ∀ h, (ofS (aloW [100, 100, 140]) h).length ≤ 20 := ⟨by decide, by decide, h20_of (by decide)⟩
  have n5 : (aloW [100, 300]).rates.length ≤ 1000 ∧ (aloW [100, 300]).readings.length ≤ 1000 ∧ ∀ h, (ofS (aloW [100, 300]) h).length ≤ 20 := ⟨by decide, by decide, h20_of (by decide)⟩
  refine con_of follows_mixed Try.func5 rfl (by simp only [List.length_cons, List.length_nil, Try.ntmps5]; omega) (by kernel_rfl) rfl ?_
  refine Exec.reg ?_
  refine Run.op (by simp only [go_sem, exp_al2, exp_al3, exp_smg] <;> rfl) (by simp only [go_sem] <;> rfl) ?_
  refine Run.nil ?_
  refine Exec.reg ?_
  refine Run.cal (c_law_sample) (by simp only [go_sem]) (by simp only [go_sem, exp_al2, exp_al3, exp_smg] <;> rfl) (by exact trivial) (fr1 (by simp only [go_sem] <;> rfl)) (by simp only [go_sem, exp_al2, exp_al3, exp_smg] <;> rfl) ?_
  iterate 2 (refine Run.op (by simp only [go_sem, exp_al2, exp_al3, exp_smg] <;> rfl) (by simp only [go_sem] <;> rfl) ?_)
  refine Run.nil ?_
  refine Exec.opk 12 ?_
  refine OpenK.op (by simp only [go_sem, exp_al2, exp_al3, exp_smg] <;> rfl) (by simp only [go_sem] <;> rfl) (by simp only [go_sem] <;> rfl) ?_
  refine OpenK.op (by simp only [go_sem, exp_al2, exp_al3, exp_smg] <;> rfl) (by simp only [go_sem] <;> rfl) (by simp only [go_sem] <;> rfl) ?_
  refine OpenK.op (by simp only [go_sem, exp_al2, exp_al3, exp_smg] <;> rfl) (by simp only [go_sem] <;> rfl) (by simp only [go_sem] <;> rfl) ?_
  refine OpenK.op (by simp only [go_sem, exp_al2, exp_al3, exp_smg] <;> rfl) (by simp only [go_sem] <;> rfl) (by simp only [go_sem] <;> rfl) ?_
  refine OpenK.op (by simp only [go_sem, exp_al2, exp_al3, exp_smg]; (try simp (disch := omega) only [if_pos]); (try simp only [go_sem, exp_al2, exp_al3, exp_smg])<;> rfl) (by simp only [go_sem] <;> rfl) (by simp only [go_sem] <;> rfl) ?_
  refine OpenK.op (by simp only [go_sem, exp_al2, exp_al3, exp_smg] <;> rfl) (by simp only [go_sem] <;> rfl) (by simp only [go_sem] <;> rfl) ?_
  refine OpenK.op (by simp only [go_sem, exp_al2, exp_al3, exp_smg] <;> rfl) (by simp only [go_sem] <;> rfl) (by simp only [go_sem] <;> rfl) ?_
  refine OpenK.op (by simp only [go_sem, exp_al2, exp_al3, exp_smg]; (try simp (disch := omega) only [if_pos]); (try simp only [go_sem, exp_al2, exp_al3, exp_smg])<;> rfl) (by simp only [go_sem] <;> rfl) (by simp only [go_sem] <;> rfl) ?_
  refine OpenK.op (by simp only [go_sem, exp_al2, exp_al3, exp_smg] <;> rfl) (by simp only [go_sem] <;> rfl) (by simp only [go_sem] <;> rfl) ?_
  refine OpenK.op (by simp only [go_sem, exp_al2, exp_al3, exp_smg] <;> rfl) (by simp only [go_sem] <;> rfl) (by simp only [go_sem] <;> rfl) ?_
  refine OpenK.nil (OpenE.fin (by decide +kernel) (by decide +kernel) ?_)
  refine Exec.assocS ?_
  refine Exec.reg ?_
  refine Run.frz 13010 (by simp only [go_sem] <;> rfl) ?_
  refine Run.cal (c_law_span _ _) (by simp only [go_sem]) (by simp only [go_sem, exp_al2, exp_al3, exp_smg] <;> rfl) (by exact ⟨by first | exact WkR.pure rfl | exact WkR.nil _ | exact WkR.int (by first | omega | (simp; done) | (simp; omega)), by first | exact WkR.pure rfl | exact WkR.nil _ | exact WkR.int (by first | omega | (simp; done) | (simp; omega)), trivial⟩) (fr0) (by simp only [go_sem, exp_al2, exp_al3, exp_smg] <;> rfl) ?_
  refine Run.op (by simp only [go_sem, exp_al2, exp_al3, exp_smg] <;> rfl) (by simp only [go_sem] <;> rfl) ?_
  refine Run.cal (c_law_span _ _) (by simp only [go_sem]) (by simp only [go_sem, exp_al2, exp_al3, exp_smg] <;> rfl) (by exact ⟨by first | exact WkR.pure rfl | exact WkR.nil _ | exact WkR.int (by first | omega | (simp; done) | (simp; omega)), by first | exact WkR.pure rfl | exact WkR.nil _ | exact WkR.int (by first | omega | (simp; done) | (simp; omega)), trivial⟩) (fr0) (by simp only [go_sem, exp_al2, exp_al3, exp_smg] <;> rfl) ?_
  refine Run.op (by simp only [go_sem, exp_al2, exp_al3, exp_smg] <;> rfl) (by simp only [go_sem] <;> rfl) ?_
  refine Run.cal (c_law_span _ _) (by simp only [go_sem]) (by simp only [go_sem, exp_al2, exp_al3, exp_smg] <;> rfl) (by exact ⟨by first | exact WkR.pure rfl | exact WkR.nil _ | exact WkR.int (by first | omega | (simp; done) | (simp; omega)), by first | exact WkR.pure rfl | exact WkR.nil _ | exact WkR.int (by first | omega | (simp; done) | (simp; omega)), trivial⟩) (fr0) (by simp only [go_sem, exp_al2, exp_al3, exp_smg] <;> rfl) ?_
  iterate 2 (refine Run.op (by simp only [go_sem, exp_al2, exp_al3, exp_smg] <;> rfl) (by simp only [go_sem] <;> rfl) ?_)
  refine Run.frz 27 (by simp only [go_sem] <;> rfl) ?_
  iterate 2 (refine Run.op (by simp only [go_sem, exp_al2, exp_al3, exp_smg] <;> rfl) (by simp only [go_sem] <;> rfl) ?_)
  refine Run.nil ?_
  refine Exec.blk ?_
  rw [namQ_eq]
  refine Exec.forA [1, 27, 28, 29] [1] (3) (fun k => [.slot 29 (.int k)]) (fun _ => True) (fun k => by simp only [go_sem] <;> rfl) (by simp only [go_sem, exp_al2, exp_al3, exp_smg] <;> rfl) ?_ (fun k hk hX => ?_)
  · trivial
  · skip
    refine Exec.reg ?_
    refine Run.op (by simp only [go_sem, exp_al2, exp_al3, exp_smg] <;> rfl) (by simp only [go_sem] <;> rfl) ?_
    refine Run.nil ?_
    refine Exec.cndS (by simp only [go_sem, exp_al2, exp_al3, exp_smg] <;> rfl) (fun hb30 => ?_) (fun hb30 => ?_)
    · skip
      have hlt : k < namQ.length := by
        have := of_decide_eq_true hb30
        show k < 3
        omega
      have hk3 : k < 3 := hlt
      obtain ⟨x, hx⟩ : ∃ x, namQ[k]? = some x := ⟨_, List.getElem?_eq_getElem hlt⟩
      have hsh := nam_all x (List.mem_of_getElem? hx)
      refine Exec.skipS ?_
      refine Exec.blk ?_
      refine Exec.reg ?_
      refine Run.op (by simp only [go_sem, exp_al2, exp_al3, exp_smg, List.getElem?_map, hx, Option.map_some, hsh]; (try simp (disch := omega) only [if_pos]); (try simp only [go_sem, exp_al2, exp_al3, exp_smg, List.getElem?_map, hx, Option.map_some, hsh])<;> rfl) (by simp only [go_sem] <;> rfl) ?_
      iterate 3 (refine Run.op (by simp only [go_sem, exp_al2, exp_al3, exp_smg, List.getElem?_map, hx, Option.map_some, hsh] <;> rfl) (by simp only [go_sem] <;> rfl) ?_)
      refine Run.nil ?_
      refine Exec.reg ?_
      iterate 3 (refine Run.op (by simp only [go_sem, exp_al2, exp_al3, exp_smg, List.getElem?_map, hx, Option.map_some, hsh] <;> rfl) (by simp only [go_sem] <;> rfl) ?_)
      refine Run.cal (c_card_Shows smpG 0 x.1 n3.1 n3.2.1 (fun _ => n3.2.2)) (by simp only [go_sem]) (by simp only [go_sem, exp_al2, exp_al3, exp_smg, List.getElem?_map, hx, Option.map_some, hsh] <;> rfl) (by exact ⟨by first | exact WkR.pure rfl | exact WkR.nil _ | exact WkR.int (by first | omega | (simp; done) | (simp; omega)), by first | exact WkR.pure rfl | exact WkR.nil _ | exact WkR.int (by first | omega | (simp; done) | (simp; omega)), by first | exact WkR.pure rfl | exact WkR.nil _ | exact WkR.int (by first | omega | (simp; done) | (simp; omega)), trivial⟩) (fr0) (by simp only [go_sem, exp_al2, exp_al3, exp_smg, List.getElem?_map, hx, Option.map_some, hsh] <;> rfl) ?_
      iterate 6 (refine Run.op (by simp only [go_sem, exp_al2, exp_al3, exp_smg, List.getElem?_map, hx, Option.map_some, hsh] <;> rfl) (by simp only [go_sem] <;> rfl) ?_)
      refine Run.nil ?_
      refine Exec.reg ?_
      iterate 5 (refine Run.op (by simp only [go_sem, exp_al2, exp_al3, exp_smg, List.getElem?_map, hx, Option.map_some, hsh] <;> rfl) (by simp only [go_sem] <;> rfl) ?_)
      refine Run.gop (by simp only [go_sem] <;> rfl) (by simp only [go_sem, exp_al2, exp_al3, exp_smg, List.getElem?_map, hx, Option.map_some, hsh] <;> rfl) (by simp only [go_sem] <;> rfl) ?_
      refine Run.gop (by simp only [go_sem] <;> rfl) (by simp only [go_sem, exp_al2, exp_al3, exp_smg, List.getElem?_map, hx, Option.map_some, hsh] <;> rfl) (by simp only [go_sem] <;> rfl) ?_
      refine Run.op (by simp only [go_sem, exp_al2, exp_al3, exp_smg, List.getElem?_map, hx, Option.map_some, hsh] <;> rfl) (by simp only [go_sem] <;> rfl) ?_
      refine Run.nil ?_
      refine Exec.cnd (by simp only [go_sem, exp_al2, exp_al3, exp_smg, List.getElem?_map, hx, Option.map_some, hsh] <;> rfl) (fun hb47 => ?_) (fun hb47 => ?_)
      · skip
        exact absurd hb47 (by simp)
      · skip
        refine BlkK.nrm ?_
        refine Exec.reg1 ?_
        refine Run.op (by simp only [go_sem, exp_al2, exp_al3, exp_smg, List.getElem?_map, hx, Option.map_some, hsh]; (try simp (disch := omega) only [IntWalk.i64_in, if_neg, if_pos])<;> rfl) (by simp only [go_sem] <;> rfl) ?_
        refine Run.op (by simp only [go_sem, exp_al2, exp_al3, exp_smg, List.getElem?_map, hx, Option.map_some, hsh] <;> rfl) (by simp only [go_sem] <;> rfl) ?_
        refine Run.nil ?_
        refine ForK.nxt ?_ ?_ ?_
        · omega
        · exact Ghost.kp [1, 27, 28, 29] [1] (by simp only [go_sem, exp_al2, exp_al3, exp_smg, List.getElem?_map, hx, Option.map_some, hsh]; first | ((repeat' (first | with_reducible_and_instances rfl | refine st_eq ?_ ?_ ?_ | refine ret_eq ?_ | refine tup_eq ?_ | refine tm_eq ?_ ?_ | refine arr_eq ?_ | refine cells_eq ?_ | refine val_eq ?_ | refine ls_eq ?_ ?_ | refine own_eq ?_ ?_ | refine sl_eq ?_ | refine b_eq ?_ | (refine i_eq ?_; omega))); done) | rfl)
        · trivial
    · skip
      refine Exec.exitS ?_
      refine ForK.ext ?_
      refine BlkK.hit ?_
      refine Exec.reg ?_
      refine Run.op (by simp only [go_sem, exp_al2, exp_al3, exp_smg] <;> rfl) (by simp only [go_sem] <;> rfl) ?_
      refine Run.frz 50 (by simp only [go_sem] <;> rfl) ?_
      refine Run.cal (c_law_alone [100, 100, 140] (by decide)) (by simp only [go_sem]) (by simp only [go_sem, exp_al2, exp_al3, exp_smg] <;> rfl) (by exact ⟨by first | exact WkR.pure rfl | exact WkR.nil _ | exact WkR.int (by first | omega | (simp; done) | (simp; omega)), trivial⟩) (fr0) (by simp only [go_sem, exp_al2, exp_al3, exp_smg] <;> rfl) ?_
      refine Run.cal (c_card_Explain (aloW [100, 100, 140]) n4.1 n4.2.1 (fun _ => n4.2.2)) (by simp only [go_sem]) (by simp only [go_sem, exp_al2, exp_al3, exp_smg] <;> rfl) (by exact ⟨by first | exact WkR.pure rfl | exact WkR.nil _ | exact WkR.int (by first | omega | (simp; done) | (simp; omega)), trivial⟩) (fr0) (by simp only [go_sem, exp_al2, exp_al3, exp_smg] <;> rfl) ?_
      iterate 5 (refine Run.op (by simp only [go_sem, exp_al2, exp_al3, exp_smg] <;> rfl) (by simp only [go_sem] <;> rfl) ?_)
      refine Run.nil ?_
      refine Exec.reg ?_
      refine Run.op (by simp only [go_sem, exp_al2, exp_al3, exp_smg] <;> rfl) (by simp only [go_sem] <;> rfl) ?_
      refine Run.frz 56 (by simp only [go_sem] <;> rfl) ?_
      refine Run.cal (c_law_alone [100, 300] (by decide)) (by simp only [go_sem]) (by simp only [go_sem, exp_al2, exp_al3, exp_smg] <;> rfl) (by exact ⟨by first | exact WkR.pure rfl | exact WkR.nil _ | exact WkR.int (by first | omega | (simp; done) | (simp; omega)), trivial⟩) (fr0) (by simp only [go_sem, exp_al2, exp_al3, exp_smg] <;> rfl) ?_
      refine Run.cal (c_card_Explain (aloW [100, 300]) n5.1 n5.2.1 (fun _ => n5.2.2)) (by simp only [go_sem]) (by simp only [go_sem, exp_al2, exp_al3, exp_smg] <;> rfl) (by exact ⟨by first | exact WkR.pure rfl | exact WkR.nil _ | exact WkR.int (by first | omega | (simp; done) | (simp; omega)), trivial⟩) (fr0) (by simp only [go_sem, exp_al2, exp_al3, exp_smg] <;> rfl) ?_
      iterate 5 (refine Run.op (by simp only [go_sem, exp_al2, exp_al3, exp_smg] <;> rfl) (by simp only [go_sem] <;> rfl) ?_)
      refine Run.nil ?_
      refine Exec.reg ?_
      refine Run.op (by simp only [go_sem, exp_al2, exp_al3, exp_smg] <;> rfl) (by simp only [go_sem] <;> rfl) ?_
      refine Run.cal (c_card_Explain smpG n3.1 n3.2.1 (fun _ => n3.2.2)) (by simp only [go_sem]) (by simp only [go_sem, exp_al2, exp_al3, exp_smg] <;> rfl) (by exact ⟨by first | exact WkR.pure rfl | exact WkR.nil _ | exact WkR.int (by first | omega | (simp; done) | (simp; omega)), trivial⟩) (fr0) (by simp only [go_sem, exp_al2, exp_al3, exp_smg] <;> rfl) ?_
      iterate 5 (refine Run.op (by simp only [go_sem, exp_al2, exp_al3, exp_smg] <;> rfl) (by simp only [go_sem] <;> rfl) ?_)
      refine Run.nil ?_
      refine Exec.reg ?_
      refine Run.op (by simp only [go_sem, exp_al2, exp_al3, exp_smg] <;> rfl) (by simp only [go_sem] <;> rfl) ?_
      refine Run.calw (by simp only [go_sem] <;> rfl) (c_law_alive) (by simp only [go_sem]) (by simp only [go_sem, exp_al2, exp_al3, exp_smg] <;> rfl) (by simp only [go_sem, exp_al2, exp_al3, exp_smg] <;> rfl) (by exact trivial) (fr0) (by simp only [go_sem, exp_al2, exp_al3, exp_smg] <;> rfl) ?_
      iterate 2 (refine Run.op (by simp only [go_sem, exp_al2, exp_al3, exp_smg] <;> rfl) (by simp only [go_sem] <;> rfl) ?_)
      refine Run.yes (by simp only [go_sem] <;> rfl) (by simp only [go_sem, exp_al2, exp_al3, exp_smg] <;> rfl) (by simp only [go_sem] <;> rfl) ?_
      refine Run.yes (by simp only [go_sem] <;> rfl) (by simp only [go_sem, exp_al2, exp_al3, exp_smg] <;> rfl) (by simp only [go_sem] <;> rfl) ?_
      refine Run.yes (by simp only [go_sem] <;> rfl) (by simp only [go_sem, exp_al2, exp_al3, exp_smg] <;> rfl) (by simp only [go_sem] <;> rfl) ?_
      refine Run.frz 72 (by simp only [go_sem] <;> rfl) ?_
      refine Run.calw (by simp only [go_sem] <;> rfl) (c_meterworksref12_Repairs [⟨1, 1, 0, 0⟩] [⟨1, 1, 0, 0⟩] (by decide) (by decide)) (by simp only [go_sem]) (by simp only [go_sem, exp_al2, exp_al3, exp_smg] <;> rfl) (by simp only [go_sem, exp_al2, exp_al3, exp_smg] <;> rfl) (by exact ⟨by first | exact WkR.pure rfl | exact WkR.nil _ | exact WkR.int (by first | omega | (simp; done) | (simp; omega)), by first | exact WkR.pure rfl | exact WkR.nil _ | exact WkR.int (by first | omega | (simp; done) | (simp; omega)), trivial⟩) (fr0) (by simp only [go_sem, exp_al2, exp_al3, exp_smg] <;> rfl) ?_
      iterate 2 (refine Run.op (by simp only [go_sem, exp_al2, exp_al3, exp_smg] <;> rfl) (by simp only [go_sem] <;> rfl) ?_)
      refine Run.yes (by simp only [go_sem] <;> rfl) (by simp only [go_sem, exp_al2, exp_al3, exp_smg] <;> rfl) (by simp only [go_sem] <;> rfl) ?_
      refine Run.yes (by simp only [go_sem] <;> rfl) (by simp only [go_sem, exp_al2, exp_al3, exp_smg] <;> rfl) (by simp only [go_sem] <;> rfl) ?_
      iterate 2 (refine Run.op (by simp only [go_sem, exp_al2, exp_al3, exp_smg] <;> rfl) (by simp only [go_sem] <;> rfl) ?_)
      refine Run.yes (by simp only [go_sem] <;> rfl) (by simp only [go_sem, exp_al2, exp_al3, exp_smg] <;> rfl) (by simp only [go_sem] <;> rfl) ?_
      refine Run.yes (by simp only [go_sem] <;> rfl) (by simp only [go_sem, exp_al2, exp_al3, exp_smg] <;> rfl) (by simp only [go_sem] <;> rfl) ?_
      iterate 2 (refine Run.op (by simp only [go_sem, exp_al2, exp_al3, exp_smg] <;> rfl) (by simp only [go_sem] <;> rfl) ?_)
      refine Run.yes (by simp only [go_sem] <;> rfl) (by simp only [go_sem, exp_al2, exp_al3, exp_smg] <;> rfl) (by simp only [go_sem] <;> rfl) ?_
      refine Run.yes (by simp only [go_sem] <;> rfl) (by simp only [go_sem, exp_al2, exp_al3, exp_smg] <;> rfl) (by simp only [go_sem] <;> rfl) ?_
      iterate 2 (refine Run.op (by simp only [go_sem, exp_al2, exp_al3, exp_smg] <;> rfl) (by simp only [go_sem] <;> rfl) ?_)
      refine Run.nil ?_
      exact Ends.fin [] (rs := [.tmp 0]) rfl (by simp only [go_sem, exp_al2, exp_al3, exp_smg] <;> rfl) (by simp only [go_sem, exp_al2, exp_al3, exp_smg] <;> first | rfl | ((repeat' (first | with_reducible_and_instances rfl | refine st_eq ?_ ?_ ?_ | refine ret_eq ?_ | refine tup_eq ?_ | refine tm_eq ?_ ?_ | refine arr_eq ?_ | refine cells_eq ?_ | refine val_eq ?_ | refine ls_eq ?_ ?_ | refine own_eq ?_ ?_ | refine sl_eq ?_ | refine b_eq ?_ | (refine i_eq ?_; omega))); done))

end Go.Mw

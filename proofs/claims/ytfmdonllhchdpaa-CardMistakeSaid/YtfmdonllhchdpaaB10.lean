/- Contracts of the card: what explains the readings. -/
import Derived.Test.YtfmdonllhchdpaaB9
import Derived.Test.YtfmdonllhchdpaaB4
import Derived.Test.YtfmdonllhchdpaaB3
set_option linter.unusedSimpArgs false
set_option linter.unusedVariables false
set_option linter.unusedSectionVars false
set_option linter.deprecated false
namespace Go.Mw
open Go.Proofs
theorem repV_get {l : List Rep} {k : Nat} {v : List AV} (h : (repV l)[k]? = some v) : ∃ r, l[k]? = some r ∧ v = [.leaf (.d (repD r))] := by
  unfold repV at h
  rw [List.getElem?_map] at h
  cases hi : l[k]? with
  | none => simp [hi] at h
  | some r => exact ⟨r, rfl, by simpa [hi] using h.symm⟩
theorem repV_len (l : List Rep) : (repV l).length = l.length := by unfold repV; simp
set_option maxRecDepth 20000 in
set_option maxHeartbeats 16000000 in
/-- meterworks/card.explain -/
theorem c_card_explain (w : Walk) (h1 : w.rates.length ≤ 1000) (h2 : w.readings.length ≤ 1000) (h20 : ∀ h, (ofS w h).length ≤ 39) (hw : walkB w = true) : Contract Try.prog 43 [walkV w] (.leaf (.d (repsD (explF w)))) [] := by
  have hn := (walk_len hw).2.2
  have hlr := len_reps hn
  refine con_of follows_mixed Try.func43 rfl (by simp only [List.length_cons, List.length_nil, Try.ntmps43]; omega) (by kernel_rfl) rfl ?_
  refine Exec.reg ?_
  iterate 2 (refine Run.op (by simp only [go_sem] <;> rfl) (by simp only [go_sem] <;> rfl) ?_)
  refine Run.nil ?_
  refine Exec.scp ?_
  refine Exec.lblS ?_
  refine Exec.assocS ?_
  refine Exec.reg ?_
  refine Run.nilC 2 0 1000 52 4 (by simp only [go_sem] <;> rfl) (by simp only [go_sem] <;> rfl) (by simp only [go_sem] <;> rfl) (by omega) (by omega) (by simp only [go_sem] <;> rfl) ?_
  refine Run.op (by simp only [go_sem] <;> rfl) (by simp only [go_sem] <;> rfl) ?_
  refine Run.cal (c_card_repairs w) (by simp only [go_sem]) (by simp only [go_sem] <;> rfl) (by exact ⟨by first | exact WkR.pure rfl | exact WkR.nil _ | exact WkR.int (by first | omega | (simp; done) | (simp; omega)), trivial⟩) (fr0) (by simp only [go_sem] <;> rfl) ?_
  refine Run.nil ?_
  refine Exec.blk ?_
  refine Exec.rangeL 66 [.pt (walkD w)] 900 (repV (repsS w)) [1, 2, 13] [1, 2, 1000] (fun k => [.obj 2 (.cells [.own 1000 0 (explK w k).length (explK w k).length]), .obj 1000 (.arr 52 4 ((explK w k).map encRepair))]) (fun _ => True) (fun k => by simp only [go_sem] <;> rfl) (by simp only [go_sem, explK_zero] <;> rfl) (fun _ => by rfl) (fun _ => by rfl) rfl (by simp only [go_sem] <;> rfl) (by simp only [go_sem]) (c_repairs_1 w h1 h2 h20 hw) (by decide +kernel) ?_ (fun k v hv hX => ?_) (fun hX => ?_)
  · trivial
  · skip
    obtain ⟨r, hr, rfl⟩ := repV_get hv
    have hkl := (List.getElem?_eq_some_iff.1 hr).1
    have hlk := len_explK w k (by omega)
    have hrm := List.mem_of_getElem? hr
    obtain ⟨hok, -⟩ := reps_ok hrm
    have hwk := with_ok hw hrm
    refine ⟨rfl, ?_⟩
    refine Exec.reg1 ?_
    refine Run.op (by simp only [go_sem, repD] <;> rfl) (by simp only [go_sem] <;> rfl) ?_
    refine Run.nil ?_
    refine ⟨rfl, ?_⟩
    refine Exec.blk1 ?_
    refine Exec.assocS ?_
    by_cases hf : misfitsS (withS w r) = none
    · skip
      have hft : fitR w r = true := by unfold fitR; rw [hf]; rfl
      have e0 := explK_succ hr
      refine Exec.reg ?_
      iterate 2 (refine Run.op (by simp only [go_sem, repD, hf, misV3] <;> rfl) (by simp only [go_sem] <;> rfl) ?_)
      refine Run.cal (c_card_with w r h1 h2 hw hok) (by simp only [go_sem]) (by simp only [go_sem, repD, hf, misV3] <;> rfl) (by exact ⟨by first | exact WkR.pure rfl | exact WkR.nil _ | exact WkR.int (by first | omega | (simp; done) | (simp; omega)), by first | exact WkR.pure rfl | exact WkR.nil _ | exact WkR.int (by first | omega | (simp; done) | (simp; omega)), trivial⟩) (fr0) (by simp only [go_sem, repD, hf, misV3] <;> rfl) ?_
      refine Run.cal (c_card_misfits (withS w r) (by rw [hwk.2.1]; exact h1) (by omega) (fun h => Nat.le_trans (len_with hok h) (h20 h)) hwk.1) (by simp only [go_sem]) (by simp only [go_sem, repD, hf, misV3] <;> rfl) (by exact ⟨by first | exact WkR.pure rfl | exact WkR.nil _ | exact WkR.int (by first | omega | (simp; done) | (simp; omega)), trivial⟩) (fr0) (by simp only [go_sem, repD, hf, misV3] <;> rfl) ?_
      iterate 7 (refine Run.op (by simp only [go_sem, repD, hf, misV3] <;> rfl) (by simp only [go_sem] <;> rfl) ?_)
      refine Run.nil ?_
      refine Exec.assocS ?_
      refine Exec.reg ?_
      refine Run.op (by simp only [go_sem, repD, hf, misV3] <;> rfl) (by simp only [go_sem] <;> rfl) ?_
      refine Run.nil ?_
      refine Exec.cndS (by simp only [go_sem, repD, hf, misV3] <;> rfl) (fun hb23 => ?_) (fun hb23 => ?_)
      · exact absurd hb23 (by simp)
      · skip
        refine Exec.skipS ?_
        by_cases hsw : ∃ a b, r = .sw a b
        · skip
          obtain ⟨a, b, rfl⟩ := hsw
          have e : explK w (k + 1) = explK w k ++ [⟨0, a, b, 0⟩] := by rw [e0]; unfold stepE; rw [if_pos hft]; rfl
          refine Exec.reg ?_
          refine Run.op (by simp only [go_sem, repD, hf, misV3] <;> rfl) (by simp only [go_sem] <;> rfl) ?_
          refine Run.nil ?_
          refine Exec.assocS ?_
          refine Exec.reg ?_
          refine Run.op (by simp only [go_sem, repD, hf, misV3] <;> rfl) (by simp only [go_sem] <;> rfl) ?_
          refine Run.nil ?_
          refine Exec.blk ?_
          refine Exec.reg ?_
          iterate 3 (refine Run.op (by simp only [go_sem, repD, hf, misV3] <;> rfl) (by simp only [go_sem] <;> rfl) ?_)
          refine Run.nil ?_
          refine Exec.cnd (by simp only [go_sem, repD, hf, misV3] <;> rfl) (fun hb26 => ?_) (fun hb26 => ?_)
          · skip
            refine Exec.reg ?_
            iterate 2 (refine Run.op (by simp only [go_sem, repD, hf, misV3] <;> rfl) (by simp only [go_sem] <;> rfl) ?_)
            refine Run.nil ?_
            refine Exec.reg1 ?_
            iterate 6 (refine Run.op (by simp only [go_sem, repD, hf, misV3] <;> rfl) (by simp only [go_sem] <;> rfl) ?_)
            refine Run.nil ?_
            refine BlkK.nrm ?_
            refine Exec.reg1 ?_
            iterate 3 (refine Run.op (by simp only [go_sem, repD, hf, misV3] <;> rfl) (by simp only [go_sem] <;> rfl) ?_)
            refine Run.op (by simp only [go_sem, repD, hf, misV3]; (try simp (disch := omega) only [if_pos]); (try simp only [go_sem, repD, hf, misV3]) <;> first | (refine ite_run ⟨by (try simp only [List.length_append, List.length_drop, List.length_take, List.length_map, List.length_cons, List.length_nil, List.length_replicate, List.length_set, List.length_range, Nat.zero_add]); omega, by (try simp only [List.length_append, List.length_drop, List.length_take, List.length_map, List.length_cons, List.length_nil, List.length_replicate, List.length_set, List.length_range, Nat.zero_add]); omega, by repeat (first | exact al_nil | assumption | refine al_app ?_ ?_ | refine al_drop ?_ | refine al_take ?_ | exact al_map (fun _ => rfl) | exact al_rep rfl | refine al_cons rfl ?_)⟩ ?_; simp only [go_sem, repD, hf, misV3] <;> rfl) | (refine ite_run ⟨by (try simp only [List.length_append, List.length_drop, List.length_take, List.length_map, List.length_cons, List.length_nil, List.length_replicate, List.length_set, List.length_range, Nat.zero_add]); omega, by repeat (first | exact al_nil | assumption | refine al_app ?_ ?_ | refine al_drop ?_ | refine al_take ?_ | exact al_map (fun _ => rfl) | exact al_rep rfl | refine al_cons rfl ?_)⟩ ?_; simp only [go_sem, repD, hf, misV3] <;> rfl) | rfl) (by simp only [go_sem] <;> rfl) ?_
            refine Run.op (by simp only [go_sem, repD, hf, misV3] <;> rfl) (by simp only [go_sem] <;> rfl) ?_
            refine Run.nil ?_
            refine Blk1K.nrm ?_
            refine RngK.nrm ?_ ?_
            · exact Ghost.kl [1, 2, 1000] (by simp only [go_sem, repD, hf, misV3]; first | ((repeat' (first | with_reducible_and_instances rfl | refine st_eq ?_ ?_ ?_ | refine ret_eq ?_ | refine tup_eq ?_ | refine tm_eq ?_ ?_ | refine arr_eq ?_ | refine cells_eq ?_ | refine val_eq ?_ | refine ls_eq ?_ ?_ | refine own_eq ?_ ?_ | refine sl_eq ?_ | refine b_eq ?_ | (refine i_eq ?_; omega))); all_goals (simp [e, encRepair])) | rfl)
            · trivial
          · exact absurd hb26 (by simp)
        · skip
          skip
          refine Exec.reg ?_
          refine Run.op (by simp only [go_sem, repD, hf, misV3] <;> rfl) (by simp only [go_sem] <;> rfl) ?_
          refine Run.nil ?_
          refine Exec.assocS ?_
          by_cases hcp : ∃ a, r = .cp a
          · skip
            obtain ⟨a, rfl⟩ := hcp
            have e : explK w (k + 1) = explK w k ++ [⟨1, a, 0, 0⟩] := by rw [e0]; unfold stepE; rw [if_pos hft]; rfl
            refine Exec.reg ?_
            refine Run.op (by simp only [go_sem, repD, hf, misV3] <;> rfl) (by simp only [go_sem] <;> rfl) ?_
            refine Run.nil ?_
            refine Exec.blk ?_
            refine Exec.reg ?_
            iterate 3 (refine Run.op (by simp only [go_sem, repD, hf, misV3] <;> rfl) (by simp only [go_sem] <;> rfl) ?_)
            refine Run.nil ?_
            refine Exec.cnd (by simp only [go_sem, repD, hf, misV3] <;> rfl) (fun hb26 => ?_) (fun hb26 => ?_)
            · exact absurd hb26 (by simp)
            · skip
              refine Exec.reg ?_
              iterate 3 (refine Run.op (by simp only [go_sem, repD, hf, misV3] <;> rfl) (by simp only [go_sem] <;> rfl) ?_)
              refine Run.nil ?_
              refine Exec.cnd (by simp only [go_sem, repD, hf, misV3] <;> rfl) (fun hb34 => ?_) (fun hb34 => ?_)
              · skip
                refine Exec.reg ?_
                iterate 2 (refine Run.op (by simp only [go_sem, repD, hf, misV3] <;> rfl) (by simp only [go_sem] <;> rfl) ?_)
                refine Run.nil ?_
                refine Exec.reg1 ?_
                iterate 4 (refine Run.op (by simp only [go_sem, repD, hf, misV3] <;> rfl) (by simp only [go_sem] <;> rfl) ?_)
                refine Run.nil ?_
                refine BlkK.nrm ?_
                refine Exec.reg1 ?_
                iterate 3 (refine Run.op (by simp only [go_sem, repD, hf, misV3] <;> rfl) (by simp only [go_sem] <;> rfl) ?_)
                refine Run.op (by simp only [go_sem, repD, hf, misV3]; (try simp (disch := omega) only [if_pos]); (try simp only [go_sem, repD, hf, misV3]) <;> first | (refine ite_run ⟨by (try simp only [List.length_append, List.length_drop, List.length_take, List.length_map, List.length_cons, List.length_nil, List.length_replicate, List.length_set, List.length_range, Nat.zero_add]); omega, by (try simp only [List.length_append, List.length_drop, List.length_take, List.length_map, List.length_cons, List.length_nil, List.length_replicate, List.length_set, List.length_range, Nat.zero_add]); omega, by repeat (first | exact al_nil | assumption | refine al_app ?_ ?_ | refine al_drop ?_ | refine al_take ?_ | exact al_map (fun _ => rfl) | exact al_rep rfl | refine al_cons rfl ?_)⟩ ?_; simp only [go_sem, repD, hf, misV3] <;> rfl) | (refine ite_run ⟨by (try simp only [List.length_append, List.length_drop, List.length_take, List.length_map, List.length_cons, List.length_nil, List.length_replicate, List.length_set, List.length_range, Nat.zero_add]); omega, by repeat (first | exact al_nil | assumption | refine al_app ?_ ?_ | refine al_drop ?_ | refine al_take ?_ | exact al_map (fun _ => rfl) | exact al_rep rfl | refine al_cons rfl ?_)⟩ ?_; simp only [go_sem, repD, hf, misV3] <;> rfl) | rfl) (by simp only [go_sem] <;> rfl) ?_
                refine Run.op (by simp only [go_sem, repD, hf, misV3] <;> rfl) (by simp only [go_sem] <;> rfl) ?_
                refine Run.nil ?_
                refine Blk1K.nrm ?_
                refine RngK.nrm ?_ ?_
                · exact Ghost.kl [1, 2, 1000] (by simp only [go_sem, repD, hf, misV3]; first | ((repeat' (first | with_reducible_and_instances rfl | refine st_eq ?_ ?_ ?_ | refine ret_eq ?_ | refine tup_eq ?_ | refine tm_eq ?_ ?_ | refine arr_eq ?_ | refine cells_eq ?_ | refine val_eq ?_ | refine ls_eq ?_ ?_ | refine own_eq ?_ ?_ | refine sl_eq ?_ | refine b_eq ?_ | (refine i_eq ?_; omega))); all_goals (simp [e, encRepair])) | rfl)
                · trivial
              · exact absurd hb34 (by simp)
          · skip
            obtain ⟨a, d, rfl⟩ : ∃ a d, r = .lt a d := by
              cases r with
              | sw a b => exact absurd ⟨a, b, rfl⟩ hsw
              | cp a => exact absurd ⟨a, rfl⟩ hcp
              | lt a d => exact ⟨a, d, rfl⟩
            have hd1000 := hok.2
            have e1 : explK w (k + 1) = addLate (explK w k) a d := by rw [e0]; unfold stepE; rw [if_pos hft]
            refine Exec.reg ?_
            refine Run.op (by simp only [go_sem, repD, hf, misV3] <;> rfl) (by simp only [go_sem] <;> rfl) ?_
            refine Run.nil ?_
            refine Exec.blk ?_
            refine Exec.reg ?_
            iterate 3 (refine Run.op (by simp only [go_sem, repD, hf, misV3] <;> rfl) (by simp only [go_sem] <;> rfl) ?_)
            refine Run.nil ?_
            refine Exec.cnd (by simp only [go_sem, repD, hf, misV3] <;> rfl) (fun hb26 => ?_) (fun hb26 => ?_)
            · exact absurd hb26 (by simp)
            · skip
              refine Exec.reg ?_
              iterate 3 (refine Run.op (by simp only [go_sem, repD, hf, misV3] <;> rfl) (by simp only [go_sem] <;> rfl) ?_)
              refine Run.nil ?_
              refine Exec.cnd (by simp only [go_sem, repD, hf, misV3] <;> rfl) (fun hb34 => ?_) (fun hb34 => ?_)
              · exact absurd hb34 (by simp)
              · skip
                refine Exec.reg ?_
                iterate 3 (refine Run.op (by simp only [go_sem, repD, hf, misV3] <;> rfl) (by simp only [go_sem] <;> rfl) ?_)
                refine Run.nil ?_
                refine Exec.cnd (by simp only [go_sem, repD, hf, misV3] <;> rfl) (fun hb40 => ?_) (fun hb40 => ?_)
                · skip
                  refine Exec.reg ?_
                  iterate 2 (refine Run.op (by simp only [go_sem, repD, hf, misV3] <;> rfl) (by simp only [go_sem] <;> rfl) ?_)
                  refine Run.nil ?_
                  refine Exec.reg ?_
                  iterate 8 (refine Run.op (by simp only [go_sem, repD, hf, misV3] <;> rfl) (by simp only [go_sem] <;> rfl) ?_)
                  refine Run.nil ?_
                  refine Exec.reg ?_
                  iterate 3 (refine Run.op (by simp only [go_sem, repD, hf, misV3] <;> rfl) (by simp only [go_sem] <;> rfl) ?_)
                  refine Run.nil ?_
                  by_cases hl0 : explK w k = []
                  · skip
                    have hg : decide (((explK w k).length : Int) > 0) = false := by rw [hl0]; rfl
                    have e : explK w (k + 1) = explK w k ++ [⟨2, a, d, d⟩] := by rw [e1, hl0]; rfl
                    refine Exec.opk 24 ?_
                    refine OpenK.op (by simp only [go_sem, repD, hf, misV3, hg] <;> rfl) (by simp only [go_sem] <;> rfl) (by simp only [go_sem] <;> rfl) ?_
                    refine OpenK.op (by simp only [go_sem, repD, hf, misV3, hg] <;> rfl) (by simp only [go_sem] <;> rfl) (by simp only [go_sem] <;> rfl) ?_
                    refine OpenK.op (by simp only [go_sem, repD, hf, misV3, hg] <;> rfl) (by simp only [go_sem] <;> rfl) (by simp only [go_sem] <;> rfl) ?_
                    refine OpenK.skp (by simp only [go_sem] <;> rfl) (by simp only [go_sem] <;> rfl) (by simp only [go_sem] <;> rfl) ?_
                    refine OpenK.skp (by simp only [go_sem] <;> rfl) (by simp only [go_sem] <;> rfl) (by simp only [go_sem] <;> rfl) ?_
                    refine OpenK.skp (by simp only [go_sem] <;> rfl) (by simp only [go_sem] <;> rfl) (by simp only [go_sem] <;> rfl) ?_
                    refine OpenK.skp (by simp only [go_sem] <;> rfl) (by simp only [go_sem] <;> rfl) (by simp only [go_sem] <;> rfl) ?_
                    refine OpenK.skp (by simp only [go_sem] <;> rfl) (by simp only [go_sem] <;> rfl) (by simp only [go_sem] <;> rfl) ?_
                    refine OpenK.skp (by simp only [go_sem] <;> rfl) (by simp only [go_sem] <;> rfl) (by simp only [go_sem] <;> rfl) ?_
                    refine OpenK.skp (by simp only [go_sem] <;> rfl) (by simp only [go_sem] <;> rfl) (by simp only [go_sem] <;> rfl) ?_
                    refine OpenK.skp (by simp only [go_sem] <;> rfl) (by simp only [go_sem] <;> rfl) (by simp only [go_sem] <;> rfl) ?_
                    refine OpenK.skp (by simp only [go_sem] <;> rfl) (by simp only [go_sem] <;> rfl) (by simp only [go_sem] <;> rfl) ?_
                    refine OpenK.skp (by simp only [go_sem] <;> rfl) (by simp only [go_sem] <;> rfl) (by simp only [go_sem] <;> rfl) ?_
                    refine OpenK.skp (by simp only [go_sem] <;> rfl) (by simp only [go_sem] <;> rfl) (by simp only [go_sem] <;> rfl) ?_
                    refine OpenK.skp (by simp only [go_sem] <;> rfl) (by simp only [go_sem] <;> rfl) (by simp only [go_sem] <;> rfl) ?_
                    refine OpenK.skp (by simp only [go_sem] <;> rfl) (by simp only [go_sem] <;> rfl) (by simp only [go_sem] <;> rfl) ?_
                    refine OpenK.skp (by simp only [go_sem] <;> rfl) (by simp only [go_sem] <;> rfl) (by simp only [go_sem] <;> rfl) ?_
                    refine OpenK.skp (by simp only [go_sem] <;> rfl) (by simp only [go_sem] <;> rfl) (by simp only [go_sem] <;> rfl) ?_
                    refine OpenK.skp (by simp only [go_sem] <;> rfl) (by simp only [go_sem] <;> rfl) (by simp only [go_sem] <;> rfl) ?_
                    refine OpenK.skp (by simp only [go_sem] <;> rfl) (by simp only [go_sem] <;> rfl) (by simp only [go_sem] <;> rfl) ?_
                    refine OpenK.skp (by simp only [go_sem] <;> rfl) (by simp only [go_sem] <;> rfl) (by simp only [go_sem] <;> rfl) ?_
                    refine OpenK.op (by simp only [go_sem, repD, hf, misV3, hg] <;> rfl) (by simp only [go_sem] <;> rfl) (by simp only [go_sem] <;> rfl) ?_
                    refine OpenK.nil (OpenE.finT (by kernel_rfl) (by kernel_rfl) (by kernel_rfl) ?_)
                    refine Exec.cnd (by simp only [go_sem, repD, hf, misV3, hg] <;> rfl) (fun hb72 => ?_) (fun hb72 => ?_)
                    · exact absurd hb72 (by simp)
                    · skip
                      refine BlkK.nrm ?_
                      refine Exec.reg1 ?_
                      iterate 3 (refine Run.op (by simp only [go_sem, repD, hf, misV3, hg] <;> rfl) (by simp only [go_sem] <;> rfl) ?_)
                      refine Run.op (by simp only [go_sem, repD, hf, misV3, hg]; (try simp (disch := omega) only [if_pos]); (try simp only [go_sem, repD, hf, misV3, hg]) <;> first | (refine ite_run ⟨by (try simp only [List.length_append, List.length_drop, List.length_take, List.length_map, List.length_cons, List.length_nil, List.length_replicate, List.length_set, List.length_range, Nat.zero_add]); omega, by (try simp only [List.length_append, List.length_drop, List.length_take, List.length_map, List.length_cons, List.length_nil, List.length_replicate, List.length_set, List.length_range, Nat.zero_add]); omega, by repeat (first | exact al_nil | assumption | refine al_app ?_ ?_ | refine al_drop ?_ | refine al_take ?_ | exact al_map (fun _ => rfl) | exact al_rep rfl | refine al_cons rfl ?_)⟩ ?_; simp only [go_sem, repD, hf, misV3, hg] <;> rfl) | (refine ite_run ⟨by (try simp only [List.length_append, List.length_drop, List.length_take, List.length_map, List.length_cons, List.length_nil, List.length_replicate, List.length_set, List.length_range, Nat.zero_add]); omega, by repeat (first | exact al_nil | assumption | refine al_app ?_ ?_ | refine al_drop ?_ | refine al_take ?_ | exact al_map (fun _ => rfl) | exact al_rep rfl | refine al_cons rfl ?_)⟩ ?_; simp only [go_sem, repD, hf, misV3, hg] <;> rfl) | rfl) (by simp only [go_sem] <;> rfl) ?_
                      refine Run.op (by simp only [go_sem, repD, hf, misV3, hg] <;> rfl) (by simp only [go_sem] <;> rfl) ?_
                      refine Run.nil ?_
                      refine Blk1K.nrm ?_
                      refine RngK.nrm ?_ ?_
                      · exact Ghost.kl [1, 2, 1000] (by simp only [go_sem, repD, hf, misV3, hg]; first | ((repeat' (first | with_reducible_and_instances rfl | refine st_eq ?_ ?_ ?_ | refine ret_eq ?_ | refine tup_eq ?_ | refine tm_eq ?_ ?_ | refine arr_eq ?_ | refine cells_eq ?_ | refine val_eq ?_ | refine ls_eq ?_ ?_ | refine own_eq ?_ ?_ | refine sl_eq ?_ | refine b_eq ?_ | (refine i_eq ?_; omega))); all_goals (simp [e, encRepair])) | rfl)
                      · trivial
                  · skip
                    have hg : decide (((explK w k).length : Int) > 0) = true := by have := List.length_pos_iff.2 hl0; simp; omega
                    have hll := List.length_pos_iff.2 hl0
                    obtain ⟨y, hy⟩ : ∃ y, (explK w k)[(explK w k).length - 1]? = some y := ⟨_, List.getElem?_eq_getElem (by omega)⟩
                    have hyl : (explK w k).getLast? = some y := by rw [List.getLast?_eq_getElem?]; exact hy
                    have t1 : (((explK w k).length : Int) - 1).toNat = (explK w k).length - 1 := by omega
                    refine Exec.opk 24 ?_
                    refine OpenK.op (by simp only [go_sem, repD, hf, misV3, hg, hy, t1] <;> rfl) (by simp only [go_sem] <;> rfl) (by simp only [go_sem] <;> rfl) ?_
                    refine OpenK.op (by simp only [go_sem, repD, hf, misV3, hg, hy, t1] <;> rfl) (by simp only [go_sem] <;> rfl) (by simp only [go_sem] <;> rfl) ?_
                    refine OpenK.op (by simp only [go_sem, repD, hf, misV3, hg, hy, t1] <;> rfl) (by simp only [go_sem] <;> rfl) (by simp only [go_sem] <;> rfl) ?_
                    refine OpenK.yes (by simp only [go_sem] <;> rfl) (by simp only [go_sem, repD, hf, misV3, hg, hy, t1] <;> rfl) (by simp only [go_sem] <;> rfl) (by simp only [go_sem] <;> rfl) ?_
                    refine OpenK.yes (by simp only [go_sem] <;> rfl) (by simp only [go_sem, repD, hf, misV3, hg, hy, t1] <;> rfl) (by simp only [go_sem] <;> rfl) (by simp only [go_sem] <;> rfl) ?_
                    refine OpenK.yes (by simp only [go_sem] <;> rfl) (by simp only [go_sem, repD, hf, misV3, hg, hy, t1]; (try simp (disch := omega) only [IntWalk.i64_in, IntWalk.u64_in, if_neg, if_pos])<;> rfl) (by simp only [go_sem] <;> rfl) (by simp only [go_sem] <;> rfl) ?_
                    refine OpenK.yes (by simp only [go_sem] <;> rfl) (by simp only [go_sem, repD, hf, misV3, hg, hy, t1]; (try simp (disch := omega) only [if_pos]); (try simp only [go_sem, repD, hf, misV3, hg, hy, t1])<;> rfl) (by simp only [go_sem] <;> rfl) (by simp only [go_sem] <;> rfl) ?_
                    refine OpenK.yes (by simp only [go_sem] <;> rfl) (by simp only [go_sem, repD, hf, misV3, hg, hy, t1] <;> rfl) (by simp only [go_sem] <;> rfl) (by simp only [go_sem] <;> rfl) ?_
                    refine OpenK.yes (by simp only [go_sem] <;> rfl) (by simp only [go_sem, repD, hf, misV3, hg, hy, t1] <;> rfl) (by simp only [go_sem] <;> rfl) (by simp only [go_sem] <;> rfl) ?_
                    refine OpenK.yes (by simp only [go_sem] <;> rfl) (by simp only [go_sem, repD, hf, misV3, hg, hy, t1] <;> rfl) (by simp only [go_sem] <;> rfl) (by simp only [go_sem] <;> rfl) ?_
                    refine OpenK.yes (by simp only [go_sem] <;> rfl) (by simp only [go_sem, repD, hf, misV3, hg, hy, t1] <;> rfl) (by simp only [go_sem] <;> rfl) (by simp only [go_sem] <;> rfl) ?_
                    refine OpenK.yes (by simp only [go_sem] <;> rfl) (by simp only [go_sem, repD, hf, misV3, hg, hy, t1] <;> rfl) (by simp only [go_sem] <;> rfl) (by simp only [go_sem] <;> rfl) ?_
                    refine OpenK.yes (by simp only [go_sem] <;> rfl) (by simp only [go_sem, repD, hf, misV3, hg, hy, t1]; (try simp (disch := omega) only [IntWalk.i64_in, IntWalk.u64_in, if_neg, if_pos])<;> rfl) (by simp only [go_sem] <;> rfl) (by simp only [go_sem] <;> rfl) ?_
                    refine OpenK.yes (by simp only [go_sem] <;> rfl) (by simp only [go_sem, repD, hf, misV3, hg, hy, t1]; (try simp (disch := omega) only [if_pos]); (try simp only [go_sem, repD, hf, misV3, hg, hy, t1])<;> rfl) (by simp only [go_sem] <;> rfl) (by simp only [go_sem] <;> rfl) ?_
                    refine OpenK.yes (by simp only [go_sem] <;> rfl) (by simp only [go_sem, repD, hf, misV3, hg, hy, t1] <;> rfl) (by simp only [go_sem] <;> rfl) (by simp only [go_sem] <;> rfl) ?_
                    refine OpenK.yes (by simp only [go_sem] <;> rfl) (by simp only [go_sem, repD, hf, misV3, hg, hy, t1] <;> rfl) (by simp only [go_sem] <;> rfl) (by simp only [go_sem] <;> rfl) ?_
                    refine OpenK.yes (by simp only [go_sem] <;> rfl) (by simp only [go_sem, repD, hf, misV3, hg, hy, t1] <;> rfl) (by simp only [go_sem] <;> rfl) (by simp only [go_sem] <;> rfl) ?_
                    refine OpenK.yes (by simp only [go_sem] <;> rfl) (by simp only [go_sem, repD, hf, misV3, hg, hy, t1] <;> rfl) (by simp only [go_sem] <;> rfl) (by simp only [go_sem] <;> rfl) ?_
                    refine OpenK.yes (by simp only [go_sem] <;> rfl) (by simp only [go_sem, repD, hf, misV3, hg, hy, t1]; (try simp (disch := omega) only [IntWalk.i64_in, IntWalk.u64_in, if_neg, if_pos])<;> rfl) (by simp only [go_sem] <;> rfl) (by simp only [go_sem] <;> rfl) ?_
                    refine OpenK.yes (by simp only [go_sem] <;> rfl) (by simp only [go_sem, repD, hf, misV3, hg, hy, t1] <;> rfl) (by simp only [go_sem] <;> rfl) (by simp only [go_sem] <;> rfl) ?_
                    refine OpenK.yes (by simp only [go_sem] <;> rfl) (by simp only [go_sem, repD, hf, misV3, hg, hy, t1] <;> rfl) (by simp only [go_sem] <;> rfl) (by simp only [go_sem] <;> rfl) ?_
                    refine OpenK.op (by simp only [go_sem, repD, hf, misV3, hg, hy, t1] <;> rfl) (by simp only [go_sem] <;> rfl) (by simp only [go_sem] <;> rfl) ?_
                    refine OpenK.nil (OpenE.finT (by kernel_rfl) (by kernel_rfl) (by kernel_rfl) ?_)
                    refine Exec.cnd (by simp only [go_sem, repD, hf, misV3, hg, hy, t1] <;> rfl) (fun hb72 => ?_) (fun hb72 => ?_)
                    · skip
                      have hy3 : y = ⟨2, a, y.b, (d : Int) - 1⟩ := by
                        obtain ⟨k0, a0, b0, c0⟩ := y
                        simp only [Bool.and_eq_true, beq_iff_eq] at hb72
                        obtain ⟨q1, q2, q3⟩ := hb72
                        subst q1 q2 q3; rfl
                      have e : explK w (k + 1) = (explK w k).set ((explK w k).length - 1) ⟨y.kind, y.a, y.b, d⟩ := by
                        rw [e1]; unfold addLate; rw [hyl]; simp only; rw [if_pos hy3, last_set hyl]
                      refine Exec.reg ?_
                      iterate 2 (refine Run.op (by simp only [go_sem, repD, hf, misV3, hg, hy, t1] <;> rfl) (by simp only [go_sem] <;> rfl) ?_)
                      refine Run.op (by simp only [go_sem, repD, hf, misV3, hg, hy, t1]; (try simp (disch := omega) only [IntWalk.i64_in, IntWalk.u64_in, if_neg, if_pos])<;> rfl) (by simp only [go_sem] <;> rfl) ?_
                      iterate 2 (refine Run.op (by simp only [go_sem, repD, hf, misV3, hg, hy, t1] <;> rfl) (by simp only [go_sem] <;> rfl) ?_)
                      refine Run.op (by simp only [go_sem, repD, hf, misV3, hg, hy, t1]; (try simp (disch := omega) only [if_pos]); (try simp only [go_sem, repD, hf, misV3, hg, hy, t1])<;> rfl) (by simp only [go_sem] <;> rfl) ?_
                      iterate 2 (refine Run.op (by simp only [go_sem, repD, hf, misV3, hg, hy, t1] <;> rfl) (by simp only [go_sem] <;> rfl) ?_)
                      refine Run.nil ?_
                      refine BlkK.mis (by decide) ?_
                      refine Blk1K.hit ?_
                      refine RngK.nrm ?_ ?_
                      · exact Ghost.kl [1, 2, 1000] (by simp only [go_sem, repD, hf, misV3, hg, hy, t1]; first | ((repeat' (first | with_reducible_and_instances rfl | refine st_eq ?_ ?_ ?_ | refine ret_eq ?_ | refine tup_eq ?_ | refine tm_eq ?_ ?_ | refine arr_eq ?_ | refine cells_eq ?_ | refine val_eq ?_ | refine ls_eq ?_ ?_ | refine own_eq ?_ ?_ | refine sl_eq ?_ | refine b_eq ?_ | (refine i_eq ?_; omega))); all_goals (simp [e, List.map_set, encRepair])) | rfl)
                      · trivial
                    · skip
                      have hy3 : ¬ y = ⟨2, a, y.b, (d : Int) - 1⟩ := fun hy4 => by
                        rw [hy4] at hb72; simp at hb72
                      have e : explK w (k + 1) = explK w k ++ [⟨2, a, d, d⟩] := by
                        rw [e1]; unfold addLate; rw [hyl]; simp only; rw [if_neg hy3]
                      refine BlkK.nrm ?_
                      refine Exec.reg1 ?_
                      iterate 3 (refine Run.op (by simp only [go_sem, repD, hf, misV3, hg, hy, t1] <;> rfl) (by simp only [go_sem] <;> rfl) ?_)
                      refine Run.op (by simp only [go_sem, repD, hf, misV3, hg, hy, t1]; (try simp (disch := omega) only [if_pos]); (try simp only [go_sem, repD, hf, misV3, hg, hy, t1]) <;> first | (refine ite_run ⟨by (try simp only [List.length_append, List.length_drop, List.length_take, List.length_map, List.length_cons, List.length_nil, List.length_replicate, List.length_set, List.length_range, Nat.zero_add]); omega, by (try simp only [List.length_append, List.length_drop, List.length_take, List.length_map, List.length_cons, List.length_nil, List.length_replicate, List.length_set, List.length_range, Nat.zero_add]); omega, by repeat (first | exact al_nil | assumption | refine al_app ?_ ?_ | refine al_drop ?_ | refine al_take ?_ | exact al_map (fun _ => rfl) | exact al_rep rfl | refine al_cons rfl ?_)⟩ ?_; simp only [go_sem, repD, hf, misV3, hg, hy, t1] <;> rfl) | (refine ite_run ⟨by (try simp only [List.length_append, List.length_drop, List.length_take, List.length_map, List.length_cons, List.length_nil, List.length_replicate, List.length_set, List.length_range, Nat.zero_add]); omega, by repeat (first | exact al_nil | assumption | refine al_app ?_ ?_ | refine al_drop ?_ | refine al_take ?_ | exact al_map (fun _ => rfl) | exact al_rep rfl | refine al_cons rfl ?_)⟩ ?_; simp only [go_sem, repD, hf, misV3, hg, hy, t1] <;> rfl) | rfl) (by simp only [go_sem] <;> rfl) ?_
                      refine Run.op (by simp only [go_sem, repD, hf, misV3, hg, hy, t1] <;> rfl) (by simp only [go_sem] <;> rfl) ?_
                      refine Run.nil ?_
                      refine Blk1K.nrm ?_
                      refine RngK.nrm ?_ ?_
                      · exact Ghost.kl [1, 2, 1000] (by simp only [go_sem, repD, hf, misV3, hg, hy, t1]; first | ((repeat' (first | with_reducible_and_instances rfl | refine st_eq ?_ ?_ ?_ | refine ret_eq ?_ | refine tup_eq ?_ | refine tm_eq ?_ ?_ | refine arr_eq ?_ | refine cells_eq ?_ | refine val_eq ?_ | refine ls_eq ?_ ?_ | refine own_eq ?_ ?_ | refine sl_eq ?_ | refine b_eq ?_ | (refine i_eq ?_; omega))); all_goals (simp [e, encRepair])) | rfl)
                      · trivial
                · exact absurd hb40 (by simp)
    · skip
      obtain ⟨q, hq⟩ : ∃ q, misfitsS (withS w r) = some q := by
        cases h : misfitsS (withS w r) with
        | none => exact absurd h hf
        | some q => exact ⟨q, rfl⟩
      have hft : ¬ fitR w r = true := by unfold fitR; rw [hq]; exact Bool.false_ne_true
      have e : explK w (k + 1) = explK w k := by rw [explK_succ hr]; unfold stepE; rw [if_neg hft]
      refine Exec.reg ?_
      iterate 2 (refine Run.op (by simp only [go_sem, repD, hq, misV3, e] <;> rfl) (by simp only [go_sem] <;> rfl) ?_)
      refine Run.cal (c_card_with w r h1 h2 hw hok) (by simp only [go_sem]) (by simp only [go_sem, repD, hq, misV3, e] <;> rfl) (by exact ⟨by first | exact WkR.pure rfl | exact WkR.nil _ | exact WkR.int (by first | omega | (simp; done) | (simp; omega)), by first | exact WkR.pure rfl | exact WkR.nil _ | exact WkR.int (by first | omega | (simp; done) | (simp; omega)), trivial⟩) (fr0) (by simp only [go_sem, repD, hq, misV3, e] <;> rfl) ?_
      refine Run.cal (c_card_misfits (withS w r) (by rw [hwk.2.1]; exact h1) (by omega) (fun h => Nat.le_trans (len_with hok h) (h20 h)) hwk.1) (by simp only [go_sem]) (by simp only [go_sem, repD, hq, misV3, e] <;> rfl) (by exact ⟨by first | exact WkR.pure rfl | exact WkR.nil _ | exact WkR.int (by first | omega | (simp; done) | (simp; omega)), trivial⟩) (fr0) (by simp only [go_sem, repD, hq, misV3, e] <;> rfl) ?_
      iterate 7 (refine Run.op (by simp only [go_sem, repD, hq, misV3, e] <;> rfl) (by simp only [go_sem] <;> rfl) ?_)
      refine Run.nil ?_
      refine Exec.assocS ?_
      refine Exec.reg ?_
      refine Run.op (by simp only [go_sem, repD, hq, misV3, e] <;> rfl) (by simp only [go_sem] <;> rfl) ?_
      refine Run.nil ?_
      refine Exec.cndS (by simp only [go_sem, repD, hq, misV3, e] <;> rfl) (fun hb23 => ?_) (fun hb23 => ?_)
      · skip
        refine Exec.exitS ?_
        refine Blk1K.hit ?_
        refine RngK.nrm ?_ ?_
        · exact Ghost.kl [1, 2, 1000] (by simp only [go_sem, repD, hq, misV3, e]; first | ((repeat' (first | with_reducible_and_instances rfl | refine st_eq ?_ ?_ ?_ | refine ret_eq ?_ | refine tup_eq ?_ | refine tm_eq ?_ ?_ | refine arr_eq ?_ | refine cells_eq ?_ | refine val_eq ?_ | refine ls_eq ?_ ?_ | refine own_eq ?_ ?_ | refine sl_eq ?_ | refine b_eq ?_ | (refine i_eq ?_; omega))); done) | rfl)
        · trivial
      · exact absurd hb23 (by simp)
  · skip
    have e : explK w (repV (repsS w)).length = explF w := by rw [repV_len]; exact explK_end w
    have hle := len_explK w (repV (repsS w)).length (by rw [repV_len]; omega)
    rw [e, repV_len] at hle
    refine BlkK.nrm ?_
    refine Exec.reg ?_
    refine Run.frz 1000 (by simp only [go_sem] <;> rfl) ?_
    iterate 2 (refine Run.op (by simp only [go_sem, e] <;> rfl) (by simp only [go_sem] <;> rfl) ?_)
    refine Run.nil ?_
    exact Ends.fin [] (rs := [.cell 2 36]) rfl (by simp only [go_sem, e] <;> rfl) (by simp only [go_sem, e] <;> first | rfl | ((repeat' (first | with_reducible_and_instances rfl | refine st_eq ?_ ?_ ?_ | refine ret_eq ?_ | refine tup_eq ?_ | refine tm_eq ?_ ?_ | refine arr_eq ?_ | refine cells_eq ?_ | refine val_eq ?_ | refine ls_eq ?_ ?_ | refine own_eq ?_ ?_ | refine sl_eq ?_ | refine b_eq ?_ | (refine i_eq ?_; omega))); (exact (List.take_of_length_le (by simp)).symm)))

set_option maxRecDepth 20000 in
/-- meterworks/card.Explain -/
theorem c_card_Explain (w : Walk) (h1 : w.rates.length ≤ 1000) (h2 : w.readings.length ≤ 1000) (h20 : walkB w = true → ∀ h, (ofS w h).length ≤ 39) : Contract Try.prog 18 [walkV w] (explV (explainR w)) [] := by
  refine con_of follows_mixed Try.func18 rfl (by simp only [List.length_cons, List.length_nil, Try.ntmps18]; omega) (by kernel_rfl) rfl ?_
  refine Exec.reg ?_
  iterate 3 (refine Run.op (by simp only [go_sem] <;> rfl) (by simp only [go_sem] <;> rfl) ?_)
  refine Run.nil ?_
  refine Exec.assocS ?_
  refine Exec.reg ?_
  refine Run.op (by simp only [go_sem] <;> rfl) (by simp only [go_sem] <;> rfl) ?_
  refine Run.cal (c_card_Misfit w h1 h2 h20) (by simp only [go_sem]) (by simp only [go_sem] <;> rfl) (by exact ⟨by first | exact WkR.pure rfl | exact WkR.nil _ | exact WkR.int (by first | omega | (simp; done) | (simp; omega)), trivial⟩) (fr0) (by simp only [go_sem] <;> rfl) ?_
  iterate 7 (refine Run.op (by simp only [go_sem] <;> rfl) (by simp only [go_sem] <;> rfl) ?_)
  refine Run.nil ?_
  refine Exec.assocS ?_
  refine Exec.reg ?_
  iterate 2 (refine Run.op (by simp only [go_sem] <;> rfl) (by simp only [go_sem] <;> rfl) ?_)
  refine Run.nil ?_
  refine Exec.cndS (by simp only [go_sem] <;> rfl) (fun hb14 => ?_) (fun hb14 => ?_)
  · skip
    have he : ¬ (misfitR w).2.2 = 0 := by simpa using hb14
    have hr : explainR w = ([], (misfitR w).2.2) := expl_no he
    refine Exec.assocS ?_
    refine Exec.reg ?_
    iterate 3 (refine Run.op (by simp only [go_sem, hr] <;> rfl) (by simp only [go_sem] <;> rfl) ?_)
    refine Run.nild 2 4 (by simp only [go_sem] <;> rfl) (by simp only [go_sem] <;> rfl) ?_
    refine Run.nil ?_
    refine Exec.retS ?_
    exact Ends.fin [] (rs := [.tmp 2, .tmp 3]) rfl (by simp only [go_sem, hr] <;> rfl) (by simp only [go_sem, hr] <;> first | rfl | ((repeat' (first | with_reducible_and_instances rfl | refine st_eq ?_ ?_ ?_ | refine ret_eq ?_ | refine tup_eq ?_ | refine tm_eq ?_ ?_ | refine arr_eq ?_ | refine cells_eq ?_ | refine val_eq ?_ | refine ls_eq ?_ ?_ | refine own_eq ?_ ?_ | refine sl_eq ?_ | refine b_eq ?_ | (refine i_eq ?_; omega))); done))
  · skip
    have he : (misfitR w).2.2 = 0 := by simpa using hb14
    obtain ⟨hw, hf⟩ := misfit_zero he
    have hall := explF_all hw
    refine Exec.skipS ?_
    refine Exec.assocS ?_
    refine Exec.reg ?_
    refine Run.op (by simp only [go_sem] <;> rfl) (by simp only [go_sem] <;> rfl) ?_
    refine Run.cal (c_card_explain w h1 h2 (h20 hw) hw) (by simp only [go_sem]) (by simp only [go_sem] <;> rfl) (by exact ⟨by first | exact WkR.pure rfl | exact WkR.nil _ | exact WkR.int (by first | omega | (simp; done) | (simp; omega)), trivial⟩) (fr0) (by simp only [go_sem] <;> rfl) ?_
    refine Run.op (by simp only [go_sem] <;> rfl) (by simp only [go_sem] <;> rfl) ?_
    refine Run.nil ?_
    refine Exec.assocS ?_
    refine Exec.reg ?_
    iterate 3 (refine Run.op (by simp only [go_sem] <;> rfl) (by simp only [go_sem] <;> rfl) ?_)
    refine Run.nil ?_
    refine Exec.cndS (by simp only [go_sem] <;> rfl) (fun hb20 => ?_) (fun hb20 => ?_)
    · skip
      have h0 : allS w = [] := by rw [← hall]; exact List.eq_nil_of_length_eq_zero (Int.ofNat_inj.1 (by simpa using hb20))
      have hr : explainR w = ([], 6) := by rw [explainR, if_pos hw, if_neg (by simp [hf]), if_pos h0]
      refine Exec.assocS ?_
      refine Exec.reg ?_
      iterate 2 (refine Run.op (by simp only [go_sem, hr] <;> rfl) (by simp only [go_sem] <;> rfl) ?_)
      refine Run.nild 2 4 (by simp only [go_sem] <;> rfl) (by simp only [go_sem] <;> rfl) ?_
      refine Run.nil ?_
      refine Exec.retS ?_
      exact Ends.fin [] (rs := [.tmp 2, .tmp 3]) rfl (by simp only [go_sem, hr] <;> rfl) (by simp only [go_sem, hr] <;> first | rfl | ((repeat' (first | with_reducible_and_instances rfl | refine st_eq ?_ ?_ ?_ | refine ret_eq ?_ | refine tup_eq ?_ | refine tm_eq ?_ ?_ | refine arr_eq ?_ | refine cells_eq ?_ | refine val_eq ?_ | refine ls_eq ?_ ?_ | refine own_eq ?_ ?_ | refine sl_eq ?_ | refine b_eq ?_ | (refine i_eq ?_; omega))); done))
    · skip
      have h0 : ¬ allS w = [] := fun h => by rw [hall, h] at hb20; simp at hb20
      have hr : explainR w = (allS w, 0) := by rw [explainR, if_pos hw, if_neg (by simp [hf]), if_neg h0]
      refine Exec.skipS ?_
      refine Exec.reg ?_
      iterate 3 (refine Run.op (by simp only [go_sem, hr, hall] <;> rfl) (by simp only [go_sem] <;> rfl) ?_)
      refine Run.nil ?_
      exact Ends.fin [] (rs := [.tmp 2, .tmp 3]) rfl (by simp only [go_sem, hr, hall] <;> rfl) (by simp only [go_sem, hr, hall] <;> first | rfl | ((repeat' (first | with_reducible_and_instances rfl | refine st_eq ?_ ?_ ?_ | refine ret_eq ?_ | refine tup_eq ?_ | refine tm_eq ?_ ?_ | refine arr_eq ?_ | refine cells_eq ?_ | refine val_eq ?_ | refine ls_eq ?_ ?_ | refine own_eq ?_ ?_ | refine sl_eq ?_ | refine b_eq ?_ | (refine i_eq ?_; omega))); done))

set_option maxRecDepth 20000 in
set_option maxHeartbeats 1000000 in
/-- meterworks/card.Mend -/
theorem c_card_Mend (w : Walk) (h1 : w.rates.length ≤ 1000) (h2 : w.readings.length ≤ 1000) (h20 : walkB w = true → ∀ h, (ofS w h).length ≤ 39) : Contract Try.prog 20 [walkV w] (mendV (mendR w)) [] := by
  refine con_of follows_mixed Try.func20 rfl (by simp only [List.length_cons, List.length_nil, Try.ntmps20]; omega) (by kernel_rfl) rfl ?_
  refine Exec.reg ?_
  iterate 3 (refine Run.op (by simp only [go_sem] <;> rfl) (by simp only [go_sem] <;> rfl) ?_)
  refine Run.nil ?_
  refine Exec.reg ?_
  refine Run.op (by simp only [go_sem] <;> rfl) (by simp only [go_sem] <;> rfl) ?_
  refine Run.cal (c_card_Explain w h1 h2 h20) (by simp only [go_sem]) (by simp only [go_sem] <;> rfl) (by exact ⟨by first | exact WkR.pure rfl | exact WkR.nil _ | exact WkR.int (by first | omega | (simp; done) | (simp; omega)), trivial⟩) (fr0) (by simp only [go_sem] <;> rfl) ?_
  iterate 5 (refine Run.op (by simp only [go_sem] <;> rfl) (by simp only [go_sem] <;> rfl) ?_)
  refine Run.nil ?_
  refine Exec.blk ?_
  refine Exec.reg ?_
  iterate 3 (refine Run.op (by simp only [go_sem] <;> rfl) (by simp only [go_sem] <;> rfl) ?_)
  refine Run.nil ?_
  refine Exec.cnd (by simp only [go_sem] <;> rfl) (fun hb11 => ?_) (fun hb11 => ?_)
  · skip
    have he : ¬ (explainR w).2 = 0 := by simpa using hb11
    have hr : mendR w = ([], (explainR w).2) := by rw [mendR, if_neg he]
    refine Exec.reg ?_
    iterate 3 (refine Run.op (by simp only [go_sem, hr] <;> rfl) (by simp only [go_sem] <;> rfl) ?_)
    refine Run.nild 2 3 (by simp only [go_sem] <;> rfl) (by simp only [go_sem] <;> rfl) ?_
    refine Run.nil ?_
    refine BlkK.ret ?_
    exact Ends.fin [] (rs := [.tmp 2, .tmp 3]) rfl (by simp only [go_sem, hr] <;> rfl) (by simp only [go_sem, hr] <;> first | rfl | ((repeat' (first | with_reducible_and_instances rfl | refine st_eq ?_ ?_ ?_ | refine ret_eq ?_ | refine tup_eq ?_ | refine tm_eq ?_ ?_ | refine arr_eq ?_ | refine cells_eq ?_ | refine val_eq ?_ | refine ls_eq ?_ ?_ | refine own_eq ?_ ?_ | refine sl_eq ?_ | refine b_eq ?_ | (refine i_eq ?_; omega))); done))
  · skip
    have he : (explainR w).2 = 0 := by simpa using hb11
    obtain ⟨hw, hl, hne⟩ := expl_zero he
    refine Exec.reg ?_
    iterate 4 (refine Run.op (by simp only [go_sem] <;> rfl) (by simp only [go_sem] <;> rfl) ?_)
    refine Run.nil ?_
    refine Exec.cnd (by simp only [go_sem] <;> rfl) (fun hb15 => ?_) (fun hb15 => ?_)
    · skip
      have hlen : 1 < (explainR w).1.length := by have := of_decide_eq_true hb15; omega
      have hr : mendR w = ([], 12) := by
        rw [mendR, if_pos he]
        match h : (explainR w).1, hlen with
        | _ :: _ :: _, _ => rfl
      refine Exec.reg ?_
      iterate 2 (refine Run.op (by simp only [go_sem, hr] <;> rfl) (by simp only [go_sem] <;> rfl) ?_)
      refine Run.nild 2 3 (by simp only [go_sem] <;> rfl) (by simp only [go_sem] <;> rfl) ?_
      refine Run.nil ?_
      refine BlkK.ret ?_
      exact Ends.fin [] (rs := [.tmp 2, .tmp 3]) rfl (by simp only [go_sem, hr] <;> rfl) (by simp only [go_sem, hr] <;> first | rfl | ((repeat' (first | with_reducible_and_instances rfl | refine st_eq ?_ ?_ ?_ | refine ret_eq ?_ | refine tup_eq ?_ | refine tm_eq ?_ ?_ | refine arr_eq ?_ | refine cells_eq ?_ | refine val_eq ?_ | refine ls_eq ?_ ?_ | refine own_eq ?_ ?_ | refine sl_eq ?_ | refine b_eq ?_ | (refine i_eq ?_; omega))); done))
    · skip
      have hlen : (explainR w).1.length ≤ 1 := by have := of_decide_eq_false hb15; omega
      obtain ⟨x, hx⟩ : ∃ x, allS w = [x] := by
        rw [hl] at hlen
        match h : allS w, hlen, hne with
        | [x], _, _ => exact ⟨x, rfl⟩
      rw [hx] at hl
      have hxm : x ∈ allS w := by rw [hx]; simp
      obtain ⟨-, -, hxa, hxb0, -⟩ := allS_works hxm
      obtain ⟨m, hm, -, hok, hwm⟩ := all_made hxm
      have hr : mendR w = (m.readings, 0) := by rw [mendR, if_pos he, hl]; simp [hm]
      refine BlkK.nrm ?_
      refine Exec.opk 11 ?_
      refine OpenK.op (by simp only [go_sem, hl, hr, hwm] <;> rfl) (by simp only [go_sem] <;> rfl) (by simp only [go_sem] <;> rfl) ?_
      refine OpenK.op (by simp only [go_sem, hl, hr, hwm] <;> rfl) (by simp only [go_sem] <;> rfl) (by simp only [go_sem] <;> rfl) ?_
      refine OpenK.op (by simp only [go_sem, hl, hr, hwm]; (try simp (disch := omega) only [if_pos]); (try simp only [go_sem, hl, hr, hwm])<;> rfl) (by simp only [go_sem] <;> rfl) (by simp only [go_sem] <;> rfl) ?_
      refine OpenK.op (by simp only [go_sem, hl, hr, hwm] <;> rfl) (by simp only [go_sem] <;> rfl) (by simp only [go_sem] <;> rfl) ?_
      refine OpenK.cal (c_card_repairOf x hxa hxb0) (by simp only [go_sem]) (by simp only [go_sem, hl, hr, hwm] <;> rfl) (by exact ⟨by first | exact WkR.pure rfl | exact WkR.nil _ | exact WkR.int (by first | omega | (simp; done) | (simp; omega)), trivial⟩) (fr0) (by simp only [go_sem, hl, hr, hwm] <;> rfl) (by simp only [go_sem] <;> rfl) (by simp only [go_sem] <;> rfl) ?_
      refine OpenK.cal (c_card_with w (repOf x) h1 h2 hw hok) (by simp only [go_sem]) (by simp only [go_sem, hl, hr, hwm] <;> rfl) (by exact ⟨by first | exact WkR.pure rfl | exact WkR.nil _ | exact WkR.int (by first | omega | (simp; done) | (simp; omega)), by first | exact WkR.pure rfl | exact WkR.nil _ | exact WkR.int (by first | omega | (simp; done) | (simp; omega)), trivial⟩) (fr0) (by simp only [go_sem, hl, hr, hwm] <;> rfl) (by simp only [go_sem] <;> rfl) (by simp only [go_sem] <;> rfl) ?_
      refine OpenK.op (by simp only [go_sem, hl, hr, hwm]; (try simp (disch := omega) only [if_pos]); (try simp only [go_sem, hl, hr, hwm])<;> rfl) (by simp only [go_sem] <;> rfl) (by simp only [go_sem] <;> rfl) ?_
      refine OpenK.op (by simp only [go_sem, hl, hr, hwm] <;> rfl) (by simp only [go_sem] <;> rfl) (by simp only [go_sem] <;> rfl) ?_
      refine OpenK.op (by simp only [go_sem, hl, hr, hwm] <;> rfl) (by simp only [go_sem] <;> rfl) (by simp only [go_sem] <;> rfl) ?_
      refine OpenK.nil (OpenE.fin (by decide +kernel) (by decide +kernel) ?_)
      exact Ends.fin [] (rs := [.tmp 2, .tmp 3]) rfl (by simp only [go_sem, hl, hr, hwm] <;> rfl) (by simp only [go_sem, hl, hr, hwm] <;> first | rfl | ((repeat' (first | with_reducible_and_instances rfl | refine st_eq ?_ ?_ ?_ | refine ret_eq ?_ | refine tup_eq ?_ | refine tm_eq ?_ ?_ | refine arr_eq ?_ | refine cells_eq ?_ | refine val_eq ?_ | refine ls_eq ?_ ?_ | refine own_eq ?_ ?_ | refine sl_eq ?_ | refine b_eq ?_ | (refine i_eq ?_; omega))); done))

end Go.Mw
namespace Go.Mw
open Go.Proofs
abbrev spl (l : List Reading) : Walk := ⟨[⟨1, 3⟩, ⟨5, 10⟩], l⟩
abbrev smpR : List Reading := [⟨0, 10, 100⟩, ⟨1, 10, 500⟩, ⟨0, 20, 580⟩, ⟨1, 20, 120⟩, ⟨0, 30, 140⟩, ⟨1, 30, 660⟩]
abbrev smpF : List Reading := [⟨0, 10, 100⟩, ⟨1, 10, 500⟩, ⟨0, 20, 120⟩, ⟨1, 20, 580⟩, ⟨0, 30, 140⟩, ⟨1, 30, 660⟩]
abbrev smpW : Walk := spl smpR
abbrev smpG : Walk := spl smpF
def aloR (l : List Int) (k : Nat) : List Reading := (List.range k).map fun (i : Nat) => ⟨0, 10 * ((i : Int) + 1), (l[i]?).getD 0⟩
abbrev aloW (l : List Int) : Walk := ⟨[⟨1, 3⟩], aloR l l.length⟩
theorem aloR_succ (l : List Int) {k : Nat} {n : Int} (h : l[k]? = some n) : aloR l (k + 1) = aloR l k ++ [⟨0, 10 * ((k : Int) + 1), n⟩] := by
  unfold aloR; rw [List.range_succ, List.map_append]; simp [h]
theorem aloR_len (l : List Int) (k : Nat) : (aloR l k).length = k := by unfold aloR; simp
def greatB (w : Walk) (n : Int) : Bool := decide ((w.readings.length : Int) > n) && decide ((w.readings.length : Int) ≤ 24) || decide ((w.readings.length : Int) > 32) || decide ((w.rates.length : Int) > 14)
theorem h20_of {w : Walk} (h : w.readings.length ≤ 39) : ∀ h, (ofS w h).length ≤ 39 := fun x => Nat.le_trans (len_ofS w x) h
theorem mis_smp : misfitR smpW = (0, 2, 0) := by decide +kernel
theorem exp_smp : explainR smpW = ([⟨0, 2, 3, 0⟩], 0) := by decide +kernel
theorem men_smp : mendR smpW = (smpF, 0) := by decide +kernel
theorem sho_smp : showsR smpG 0 15 = (⟨105, 115⟩, 0) := by decide +kernel
theorem exp_alo : explainR (aloW [100, 105, 140]) = ([⟨2, 1, 5, 8⟩], 0) := by decide +kernel
set_option maxRecDepth 20000 in
/-- meterworks/meterworkslaw12.span -/
theorem c_law_span (a b : Int) : Contract Try.prog 25 [.int a, .int b] (spanV ⟨a, b⟩) [] := by
  refine con_of follows_mixed Try.func25 rfl (by simp only [List.length_cons, List.length_nil, Try.ntmps25]; omega) (by kernel_rfl) rfl ?_
  refine Exec.reg ?_
  refine Run.op (by simp only [go_sem] <;> rfl) (by simp only [go_sem] <;> rfl) ?_
  refine Run.nil ?_
  refine Exec.reg ?_
  iterate 4 (refine Run.op (by simp only [go_sem] <;> rfl) (by simp only [go_sem] <;> rfl) ?_)
  refine Run.nil ?_
  exact Ends.fin [] (rs := [.cell 4 32]) rfl (by simp only [go_sem] <;> rfl) (by simp only [go_sem] <;> first | rfl | ((repeat' (first | with_reducible_and_instances rfl | refine st_eq ?_ ?_ ?_ | refine ret_eq ?_ | refine tup_eq ?_ | refine tm_eq ?_ ?_ | refine arr_eq ?_ | refine cells_eq ?_ | refine val_eq ?_ | refine ls_eq ?_ ?_ | refine own_eq ?_ ?_ | refine sl_eq ?_ | refine b_eq ?_ | (refine i_eq ?_; omega))); done))

set_option maxRecDepth 20000 in
set_option maxHeartbeats 4000000 in
/-- meterworks/meterworkslaw12.great -/
theorem c_law_great (w : Walk) (n : Int) : Contract Try.prog 12 [walkV w, .int n] (.bool (greatB w n)) [] := by
  refine con_of follows_mixed Try.func12 rfl (by simp only [List.length_cons, List.length_nil, Try.ntmps12]; omega) (by kernel_rfl) rfl ?_
  refine Exec.reg ?_
  iterate 2 (refine Run.op (by simp only [go_sem, greatB] <;> rfl) (by simp only [go_sem] <;> rfl) ?_)
  refine Run.nil ?_
  refine Exec.reg ?_
  iterate 6 (refine Run.op (by simp only [go_sem, greatB] <;> rfl) (by simp only [go_sem] <;> rfl) ?_)
  refine Run.gop (by simp only [go_sem] <;> rfl) (by simp only [go_sem, greatB] <;> rfl) (by simp only [go_sem] <;> rfl) ?_
  refine Run.gop (by simp only [go_sem] <;> rfl) (by simp only [go_sem, greatB] <;> rfl) (by simp only [go_sem] <;> rfl) ?_
  refine Run.gop (by simp only [go_sem] <;> rfl) (by simp only [go_sem, greatB] <;> rfl) (by simp only [go_sem] <;> rfl) ?_
  refine Run.gop (by simp only [go_sem] <;> rfl) (by simp only [go_sem, greatB] <;> rfl) (by simp only [go_sem] <;> rfl) ?_
  iterate 2 (refine Run.op (by simp only [go_sem, greatB] <;> rfl) (by simp only [go_sem] <;> rfl) ?_)
  refine Run.gop (by simp only [go_sem] <;> rfl) (by simp only [go_sem, greatB] <;> rfl) (by simp only [go_sem] <;> rfl) ?_
  refine Run.gop (by simp only [go_sem] <;> rfl) (by simp only [go_sem, greatB] <;> rfl) (by simp only [go_sem] <;> rfl) ?_
  refine Run.gop (by simp only [go_sem] <;> rfl) (by simp only [go_sem, greatB] <;> rfl) (by simp only [go_sem] <;> rfl) ?_
  refine Run.gop (by simp only [go_sem] <;> rfl) (by simp only [go_sem, greatB] <;> rfl) (by simp only [go_sem] <;> rfl) ?_
  iterate 2 (refine Run.op (by simp only [go_sem, greatB] <;> rfl) (by simp only [go_sem] <;> rfl) ?_)
  refine Run.gop (by simp only [go_sem] <;> rfl) (by simp only [go_sem, greatB] <;> rfl) (by simp only [go_sem] <;> rfl) ?_
  refine Run.gop (by simp only [go_sem] <;> rfl) (by simp only [go_sem, greatB] <;> rfl) (by simp only [go_sem] <;> rfl) ?_
  refine Run.gop (by simp only [go_sem] <;> rfl) (by simp only [go_sem, greatB] <;> rfl) (by simp only [go_sem] <;> rfl) ?_
  refine Run.gop (by simp only [go_sem] <;> rfl) (by simp only [go_sem, greatB] <;> rfl) (by simp only [go_sem] <;> rfl) ?_
  iterate 2 (refine Run.op (by simp only [go_sem, greatB] <;> rfl) (by simp only [go_sem] <;> rfl) ?_)
  refine Run.nil ?_
  exact Ends.fin [] (rs := [.tmp 4]) rfl (by simp only [go_sem, greatB] <;> rfl) (by simp only [go_sem, greatB] <;> first | rfl | ((repeat' (first | with_reducible_and_instances rfl | refine st_eq ?_ ?_ ?_ | refine ret_eq ?_ | refine tup_eq ?_ | refine tm_eq ?_ ?_ | refine arr_eq ?_ | refine cells_eq ?_ | refine val_eq ?_ | refine ls_eq ?_ ?_ | refine own_eq ?_ ?_ | refine sl_eq ?_ | refine b_eq ?_ | (refine i_eq ?_; omega))); done))

set_option maxRecDepth 20000 in
/-- meterworks/meterworkslaw12.sample -/
theorem c_law_sample : Contract Try.prog 24 [] (.val true [.d (.sl 2 (smpW.rates.map encSpan)), .own 10 0 6 6]) [(10, .arr 46 3 (smpR.map encReading))] := by
  refine con_of follows_mixed Try.func24 rfl (by simp only [List.length_cons, List.length_nil, Try.ntmps24]; omega) (by kernel_rfl) rfl ?_
  refine Exec.reg ?_
  refine Run.op (by simp only [go_sem] <;> rfl) (by simp only [go_sem] <;> rfl) ?_
  refine Run.nil ?_
  refine Exec.reg ?_
  refine Run.cal (c_law_span _ _) (by simp only [go_sem]) (by simp only [go_sem] <;> rfl) (by exact ⟨by first | exact WkR.pure rfl | exact WkR.nil _ | exact WkR.int (by first | omega | (simp; done) | (simp; omega)), by first | exact WkR.pure rfl | exact WkR.nil _ | exact WkR.int (by first | omega | (simp; done) | (simp; omega)), trivial⟩) (fr0) (by simp only [go_sem] <;> rfl) ?_
  refine Run.cal (c_law_span _ _) (by simp only [go_sem]) (by simp only [go_sem] <;> rfl) (by exact ⟨by first | exact WkR.pure rfl | exact WkR.nil _ | exact WkR.int (by first | omega | (simp; done) | (simp; omega)), by first | exact WkR.pure rfl | exact WkR.nil _ | exact WkR.int (by first | omega | (simp; done) | (simp; omega)), trivial⟩) (fr0) (by simp only [go_sem] <;> rfl) ?_
  iterate 10 (refine Run.op (by simp only [go_sem] <;> rfl) (by simp only [go_sem] <;> rfl) ?_)
  refine Run.frz 3 (by simp only [go_sem] <;> rfl) ?_
  refine Run.nil ?_
  exact Ends.fin [10] (rs := [.cell 0 25]) rfl (by simp only [go_sem] <;> rfl) (by simp only [go_sem] <;> first | rfl | ((repeat' (first | with_reducible_and_instances rfl | refine st_eq ?_ ?_ ?_ | refine ret_eq ?_ | refine tup_eq ?_ | refine tm_eq ?_ ?_ | refine arr_eq ?_ | refine cells_eq ?_ | refine val_eq ?_ | refine ls_eq ?_ ?_ | refine own_eq ?_ ?_ | refine sl_eq ?_ | refine b_eq ?_ | (refine i_eq ?_; omega))); done))

set_option maxRecDepth 20000 in
set_option maxHeartbeats 4000000 in
/-- meterworks/meterworkslaw12.alone -/
theorem c_law_alone (l : List Int) (hl : l.length ≤ 1000) : Contract Try.prog 26 [.leaf (.d (.sl 1 (l.map encInt)))] (walkV (aloW l)) [] := by
  refine con_of follows_mixed Try.func26 rfl (by simp only [List.length_cons, List.length_nil, Try.ntmps26]; omega) (by kernel_rfl) rfl ?_
  refine Exec.reg ?_
  refine Run.op (by simp only [go_sem] <;> rfl) (by simp only [go_sem] <;> rfl) ?_
  refine Run.nil ?_
  refine Exec.reg ?_
  refine Run.cal (c_law_span _ _) (by simp only [go_sem]) (by simp only [go_sem] <;> rfl) (by exact ⟨by first | exact WkR.pure rfl | exact WkR.nil _ | exact WkR.int (by first | omega | (simp; done) | (simp; omega)), by first | exact WkR.pure rfl | exact WkR.nil _ | exact WkR.int (by first | omega | (simp; done) | (simp; omega)), trivial⟩) (fr0) (by simp only [go_sem] <;> rfl) ?_
  iterate 2 (refine Run.op (by simp only [go_sem] <;> rfl) (by simp only [go_sem] <;> rfl) ?_)
  refine Run.frz 7 (by simp only [go_sem] <;> rfl) ?_
  iterate 2 (refine Run.op (by simp only [go_sem] <;> rfl) (by simp only [go_sem] <;> rfl) ?_)
  refine Run.nil ?_
  refine Exec.assocS ?_
  refine Exec.reg ?_
  refine Run.nilC 3 1 1000 46 3 (by simp only [go_sem] <;> rfl) (by simp only [go_sem] <;> rfl) (by simp only [go_sem] <;> rfl) (by omega) (by omega) (by simp only [go_sem] <;> rfl) ?_
  iterate 3 (refine Run.op (by simp only [go_sem] <;> rfl) (by simp only [go_sem] <;> rfl) ?_)
  refine Run.nil ?_
  refine Exec.blk ?_
  refine Exec.forA [2, 3, 9, 10, 11] [2, 3, 1000] (l.length) (fun k => [.slot 11 (.int k), .obj 3 (.cells [.d (.sl 2 [[.i 1, .i 3]]), .own 1000 0 (aloR l k).length (aloR l k).length]), .obj 1000 (.arr 46 3 ((aloR l k).map encReading))]) (fun _ => True) (fun k => by simp only [go_sem] <;> rfl) (by simp only [go_sem] <;> rfl) ?_ (fun k hk hX => ?_)
  · trivial
  · skip
    refine Exec.reg ?_
    refine Run.op (by simp only [go_sem] <;> rfl) (by simp only [go_sem] <;> rfl) ?_
    refine Run.nil ?_
    refine Exec.cndS (by simp only [go_sem] <;> rfl) (fun hb12 => ?_) (fun hb12 => ?_)
    · skip
      have hlt := lt_of_dec hb12
      obtain ⟨n, hn⟩ := elem_of hb12
      have e := aloR_succ l hn
      have hq := aloR_len l k
      refine Exec.skipS ?_
      refine Exec.blk ?_
      refine Exec.reg ?_
      refine Run.op (by simp only [go_sem, hn] <;> rfl) (by simp only [go_sem] <;> rfl) ?_
      refine Run.op (by simp only [go_sem, hn]; (try simp (disch := omega) only [if_pos]); (try simp only [go_sem, hn])<;> rfl) (by simp only [go_sem] <;> rfl) ?_
      iterate 3 (refine Run.op (by simp only [go_sem, hn] <;> rfl) (by simp only [go_sem] <;> rfl) ?_)
      refine Run.nil ?_
      refine Exec.reg1 ?_
      iterate 3 (refine Run.op (by simp only [go_sem, hn] <;> rfl) (by simp only [go_sem] <;> rfl) ?_)
      refine Run.op (by simp only [go_sem, hn]; (try simp (disch := omega) only [IntWalk.i64_in, IntWalk.u64_in, if_neg, if_pos])<;> rfl) (by simp only [go_sem] <;> rfl) ?_
      refine Run.op (by simp only [go_sem, hn]; (try simp (disch := omega) only [IntWalk.i64_in, IntWalk.u64_in, if_neg, if_pos])<;> rfl) (by simp only [go_sem] <;> rfl) ?_
      iterate 3 (refine Run.op (by simp only [go_sem, hn] <;> rfl) (by simp only [go_sem] <;> rfl) ?_)
      refine Run.op (by simp only [go_sem, hn]; (try simp (disch := omega) only [if_pos]); (try simp only [go_sem, hn]) <;> first | (refine ite_run ⟨by (try simp only [List.length_append, List.length_drop, List.length_take, List.length_map, List.length_cons, List.length_nil, List.length_replicate, List.length_set, List.length_range, Nat.zero_add]); omega, by (try simp only [List.length_append, List.length_drop, List.length_take, List.length_map, List.length_cons, List.length_nil, List.length_replicate, List.length_set, List.length_range, Nat.zero_add]); omega, by repeat (first | exact al_nil | assumption | refine al_app ?_ ?_ | refine al_drop ?_ | refine al_take ?_ | exact al_map (fun _ => rfl) | exact al_rep rfl | refine al_cons rfl ?_)⟩ ?_; simp only [go_sem, hn] <;> rfl) | (refine ite_run ⟨by (try simp only [List.length_append, List.length_drop, List.length_take, List.length_map, List.length_cons, List.length_nil, List.length_replicate, List.length_set, List.length_range, Nat.zero_add]); omega, by repeat (first | exact al_nil | assumption | refine al_app ?_ ?_ | refine al_drop ?_ | refine al_take ?_ | exact al_map (fun _ => rfl) | exact al_rep rfl | refine al_cons rfl ?_)⟩ ?_; simp only [go_sem, hn] <;> rfl) | rfl) (by simp only [go_sem] <;> rfl) ?_
      iterate 2 (refine Run.op (by simp only [go_sem, hn] <;> rfl) (by simp only [go_sem] <;> rfl) ?_)
      refine Run.nil ?_
      refine BlkK.nrm ?_
      refine Exec.reg1 ?_
      refine Run.op (by simp only [go_sem, hn]; (try simp (disch := omega) only [IntWalk.i64_in, IntWalk.u64_in, if_neg, if_pos])<;> rfl) (by simp only [go_sem] <;> rfl) ?_
      refine Run.op (by simp only [go_sem, hn] <;> rfl) (by simp only [go_sem] <;> rfl) ?_
      refine Run.nil ?_
      refine ForK.nxt ?_ ?_ ?_
      · omega
      · exact Ghost.kp [2, 3, 9, 10, 11] [2, 3, 1000] (by simp only [go_sem, hn]; first | ((repeat' (first | with_reducible_and_instances rfl | refine st_eq ?_ ?_ ?_ | refine ret_eq ?_ | refine tup_eq ?_ | refine tm_eq ?_ ?_ | refine arr_eq ?_ | refine cells_eq ?_ | refine val_eq ?_ | refine ls_eq ?_ ?_ | refine own_eq ?_ ?_ | refine sl_eq ?_ | refine b_eq ?_ | (refine i_eq ?_; omega))); (all_goals (simp [e, encReading]))) | rfl)
      · trivial
    · skip
      have hek : k = l.length := by have := ge_of_dec hb12; omega
      subst hek
      refine Exec.exitS ?_
      refine ForK.ext ?_
      refine BlkK.hit ?_
      refine Exec.reg ?_
      refine Run.frz 1000 (by simp only [go_sem] <;> rfl) ?_
      iterate 2 (refine Run.op (by simp only [go_sem] <;> rfl) (by simp only [go_sem] <;> rfl) ?_)
      refine Run.nil ?_
      exact Ends.fin [] (rs := [.cell 2 25]) rfl (by simp only [go_sem] <;> rfl) (by simp only [go_sem] <;> first | rfl | ((repeat' (first | with_reducible_and_instances rfl | refine st_eq ?_ ?_ ?_ | refine ret_eq ?_ | refine tup_eq ?_ | refine tm_eq ?_ ?_ | refine arr_eq ?_ | refine cells_eq ?_ | refine val_eq ?_ | refine ls_eq ?_ ?_ | refine own_eq ?_ ?_ | refine sl_eq ?_ | refine b_eq ?_ | (refine i_eq ?_; omega))); (focus rfl); exact (List.take_of_length_le (Nat.le_of_eq (List.length_map _))).symm))

set_option maxRecDepth 20000 in
set_option maxHeartbeats 16000000 in
/-- meterworks/meterworkslaw12.alive -/
theorem c_law_alive : Contract Try.prog 13 [] (.bool true) [] := by
  have n2 : smpW.rates.length ≤ 1000 ∧ smpW.readings.length ≤ 1000 ∧ ∀ h, (ofS smpW h).length ≤ 39 := ⟨by decide, by decide, h20_of (by decide)⟩
  have n3 : smpG.rates.length ≤ 1000 ∧ smpG.readings.length ≤ 1000 ∧ ∀ h, (ofS smpG h).length ≤ 39 := ⟨by decide, by decide, h20_of (by decide)⟩
  have n4 : (aloW [100, 105, 140]).rates.length ≤ 1000 ∧ (aloW [100, 105, 140]).readings.length ≤ 1000 ∧ ∀ h, (ofS (aloW [100, 105, 140]) h).length ≤ 39 := ⟨by decide, by decide, h20_of (by decide)⟩
  refine con_of follows_mixed Try.func13 rfl (by simp only [List.length_cons, List.length_nil, Try.ntmps13]; omega) (by kernel_rfl) rfl ?_
  refine Exec.reg ?_
  refine Run.op (by simp only [go_sem, mis_smp, exp_smp, men_smp, sho_smp, exp_alo] <;> rfl) (by simp only [go_sem] <;> rfl) ?_
  refine Run.nil ?_
  refine Exec.reg ?_
  refine Run.cal (c_law_sample) (by simp only [go_sem]) (by simp only [go_sem, mis_smp, exp_smp, men_smp, sho_smp, exp_alo] <;> rfl) (by exact trivial) (fr1 (by simp only [go_sem] <;> rfl)) (by simp only [go_sem, mis_smp, exp_smp, men_smp, sho_smp, exp_alo] <;> rfl) ?_
  refine Run.frz 15010 (by simp only [go_sem] <;> rfl) ?_
  refine Run.cal (c_card_Misfit smpW n2.1 n2.2.1 (fun _ => n2.2.2)) (by simp only [go_sem]) (by simp only [go_sem, mis_smp, exp_smp, men_smp, sho_smp, exp_alo] <;> rfl) (by exact ⟨by first | exact WkR.pure rfl | exact WkR.nil _ | exact WkR.int (by first | omega | (simp; done) | (simp; omega)), trivial⟩) (fr0) (by simp only [go_sem, mis_smp, exp_smp, men_smp, sho_smp, exp_alo] <;> rfl) ?_
  iterate 7 (refine Run.op (by simp only [go_sem, mis_smp, exp_smp, men_smp, sho_smp, exp_alo] <;> rfl) (by simp only [go_sem] <;> rfl) ?_)
  refine Run.nil ?_
  refine Exec.reg ?_
  refine Run.cal (c_law_sample) (by simp only [go_sem]) (by simp only [go_sem, mis_smp, exp_smp, men_smp, sho_smp, exp_alo] <;> rfl) (by exact trivial) (fr1 (by simp only [go_sem] <;> rfl)) (by simp only [go_sem, mis_smp, exp_smp, men_smp, sho_smp, exp_alo] <;> rfl) ?_
  refine Run.frz 21010 (by simp only [go_sem] <;> rfl) ?_
  refine Run.cal (c_card_Explain smpW n2.1 n2.2.1 (fun _ => n2.2.2)) (by simp only [go_sem]) (by simp only [go_sem, mis_smp, exp_smp, men_smp, sho_smp, exp_alo] <;> rfl) (by exact ⟨by first | exact WkR.pure rfl | exact WkR.nil _ | exact WkR.int (by first | omega | (simp; done) | (simp; omega)), trivial⟩) (fr0) (by simp only [go_sem, mis_smp, exp_smp, men_smp, sho_smp, exp_alo] <;> rfl) ?_
  iterate 5 (refine Run.op (by simp only [go_sem, mis_smp, exp_smp, men_smp, sho_smp, exp_alo] <;> rfl) (by simp only [go_sem] <;> rfl) ?_)
  refine Run.nil ?_
  refine Exec.reg ?_
  refine Run.cal (c_law_sample) (by simp only [go_sem]) (by simp only [go_sem, mis_smp, exp_smp, men_smp, sho_smp, exp_alo] <;> rfl) (by exact trivial) (fr1 (by simp only [go_sem] <;> rfl)) (by simp only [go_sem, mis_smp, exp_smp, men_smp, sho_smp, exp_alo] <;> rfl) ?_
  refine Run.frz 26010 (by simp only [go_sem] <;> rfl) ?_
  refine Run.cal (c_card_Mend smpW n2.1 n2.2.1 (fun _ => n2.2.2)) (by simp only [go_sem]) (by simp only [go_sem, mis_smp, exp_smp, men_smp, sho_smp, exp_alo] <;> rfl) (by exact ⟨by first | exact WkR.pure rfl | exact WkR.nil _ | exact WkR.int (by first | omega | (simp; done) | (simp; omega)), trivial⟩) (fr0) (by simp only [go_sem, mis_smp, exp_smp, men_smp, sho_smp, exp_alo] <;> rfl) ?_
  iterate 5 (refine Run.op (by simp only [go_sem, mis_smp, exp_smp, men_smp, sho_smp, exp_alo] <;> rfl) (by simp only [go_sem] <;> rfl) ?_)
  refine Run.nil ?_
  refine Exec.reg ?_
  refine Run.cal (c_law_sample) (by simp only [go_sem]) (by simp only [go_sem, mis_smp, exp_smp, men_smp, sho_smp, exp_alo] <;> rfl) (by exact trivial) (fr1 (by simp only [go_sem] <;> rfl)) (by simp only [go_sem, mis_smp, exp_smp, men_smp, sho_smp, exp_alo] <;> rfl) ?_
  iterate 2 (refine Run.op (by simp only [go_sem, mis_smp, exp_smp, men_smp, sho_smp, exp_alo] <;> rfl) (by simp only [go_sem] <;> rfl) ?_)
  refine Run.nil ?_
  refine Exec.opk 12 ?_
  refine OpenK.op (by simp only [go_sem, mis_smp, exp_smp, men_smp, sho_smp, exp_alo] <;> rfl) (by simp only [go_sem] <;> rfl) (by simp only [go_sem] <;> rfl) ?_
  refine OpenK.op (by simp only [go_sem, mis_smp, exp_smp, men_smp, sho_smp, exp_alo] <;> rfl) (by simp only [go_sem] <;> rfl) (by simp only [go_sem] <;> rfl) ?_
  refine OpenK.op (by simp only [go_sem, mis_smp, exp_smp, men_smp, sho_smp, exp_alo] <;> rfl) (by simp only [go_sem] <;> rfl) (by simp only [go_sem] <;> rfl) ?_
  refine OpenK.op (by simp only [go_sem, mis_smp, exp_smp, men_smp, sho_smp, exp_alo] <;> rfl) (by simp only [go_sem] <;> rfl) (by simp only [go_sem] <;> rfl) ?_
  refine OpenK.op (by simp only [go_sem, mis_smp, exp_smp, men_smp, sho_smp, exp_alo]; (try simp (disch := omega) only [if_pos]); (try simp only [go_sem, mis_smp, exp_smp, men_smp, sho_smp, exp_alo])<;> rfl) (by simp only [go_sem] <;> rfl) (by simp only [go_sem] <;> rfl) ?_
  refine OpenK.op (by simp only [go_sem, mis_smp, exp_smp, men_smp, sho_smp, exp_alo] <;> rfl) (by simp only [go_sem] <;> rfl) (by simp only [go_sem] <;> rfl) ?_
  refine OpenK.op (by simp only [go_sem, mis_smp, exp_smp, men_smp, sho_smp, exp_alo] <;> rfl) (by simp only [go_sem] <;> rfl) (by simp only [go_sem] <;> rfl) ?_
  refine OpenK.op (by simp only [go_sem, mis_smp, exp_smp, men_smp, sho_smp, exp_alo]; (try simp (disch := omega) only [if_pos]); (try simp only [go_sem, mis_smp, exp_smp, men_smp, sho_smp, exp_alo])<;> rfl) (by simp only [go_sem] <;> rfl) (by simp only [go_sem] <;> rfl) ?_
  refine OpenK.op (by simp only [go_sem, mis_smp, exp_smp, men_smp, sho_smp, exp_alo] <;> rfl) (by simp only [go_sem] <;> rfl) (by simp only [go_sem] <;> rfl) ?_
  refine OpenK.op (by simp only [go_sem, mis_smp, exp_smp, men_smp, sho_smp, exp_alo] <;> rfl) (by simp only [go_sem] <;> rfl) (by simp only [go_sem] <;> rfl) ?_
  refine OpenK.nil (OpenE.fin (by kernel_rfl) (by kernel_rfl) ?_)
  refine Exec.reg ?_
  refine Run.frz 30010 (by simp only [go_sem] <;> rfl) ?_
  refine Run.op (by simp only [go_sem, mis_smp, exp_smp, men_smp, sho_smp, exp_alo] <;> rfl) (by simp only [go_sem] <;> rfl) ?_
  refine Run.cal (c_card_Shows smpG 0 15 n3.1 n3.2.1 (fun _ => n3.2.2)) (by simp only [go_sem]) (by simp only [go_sem, mis_smp, exp_smp, men_smp, sho_smp, exp_alo] <;> rfl) (by exact ⟨by first | exact WkR.pure rfl | exact WkR.nil _ | exact WkR.int (by first | omega | (simp; done) | (simp; omega)), by first | exact WkR.pure rfl | exact WkR.nil _ | exact WkR.int (by first | omega | (simp; done) | (simp; omega)), by first | exact WkR.pure rfl | exact WkR.nil _ | exact WkR.int (by first | omega | (simp; done) | (simp; omega)), trivial⟩) (fr0) (by simp only [go_sem, mis_smp, exp_smp, men_smp, sho_smp, exp_alo] <;> rfl) ?_
  iterate 6 (refine Run.op (by simp only [go_sem, mis_smp, exp_smp, men_smp, sho_smp, exp_alo] <;> rfl) (by simp only [go_sem] <;> rfl) ?_)
  refine Run.nil ?_
  refine Exec.reg ?_
  refine Run.op (by simp only [go_sem, mis_smp, exp_smp, men_smp, sho_smp, exp_alo] <;> rfl) (by simp only [go_sem] <;> rfl) ?_
  refine Run.frz 44 (by simp only [go_sem] <;> rfl) ?_
  refine Run.cal (c_law_alone [100, 105, 140] (by decide)) (by simp only [go_sem]) (by simp only [go_sem, mis_smp, exp_smp, men_smp, sho_smp, exp_alo] <;> rfl) (by exact ⟨by first | exact WkR.pure rfl | exact WkR.nil _ | exact WkR.int (by first | omega | (simp; done) | (simp; omega)), trivial⟩) (fr0) (by simp only [go_sem, mis_smp, exp_smp, men_smp, sho_smp, exp_alo] <;> rfl) ?_
  refine Run.cal (c_card_Explain (aloW [100, 105, 140]) n4.1 n4.2.1 (fun _ => n4.2.2)) (by simp only [go_sem]) (by simp only [go_sem, mis_smp, exp_smp, men_smp, sho_smp, exp_alo] <;> rfl) (by exact ⟨by first | exact WkR.pure rfl | exact WkR.nil _ | exact WkR.int (by first | omega | (simp; done) | (simp; omega)), trivial⟩) (fr0) (by simp only [go_sem, mis_smp, exp_smp, men_smp, sho_smp, exp_alo] <;> rfl) ?_
  iterate 5 (refine Run.op (by simp only [go_sem, mis_smp, exp_smp, men_smp, sho_smp, exp_alo] <;> rfl) (by simp only [go_sem] <;> rfl) ?_)
  refine Run.nil ?_
  refine Exec.opk 52 ?_
  refine OpenK.op (by simp only [go_sem, mis_smp, exp_smp, men_smp, sho_smp, exp_alo] <;> rfl) (by simp only [go_sem] <;> rfl) (by simp only [go_sem] <;> rfl) ?_
  refine OpenK.op (by simp only [go_sem, mis_smp, exp_smp, men_smp, sho_smp, exp_alo] <;> rfl) (by simp only [go_sem] <;> rfl) (by simp only [go_sem] <;> rfl) ?_
  refine OpenK.op (by simp only [go_sem, mis_smp, exp_smp, men_smp, sho_smp, exp_alo] <;> rfl) (by simp only [go_sem] <;> rfl) (by simp only [go_sem] <;> rfl) ?_
  refine OpenK.yes (by simp only [go_sem] <;> rfl) (by simp only [go_sem, mis_smp, exp_smp, men_smp, sho_smp, exp_alo] <;> rfl) (by simp only [go_sem] <;> rfl) (by simp only [go_sem] <;> rfl) ?_
  refine OpenK.yes (by simp only [go_sem] <;> rfl) (by simp only [go_sem, mis_smp, exp_smp, men_smp, sho_smp, exp_alo] <;> rfl) (by simp only [go_sem] <;> rfl) (by simp only [go_sem] <;> rfl) ?_
  refine OpenK.op (by simp only [go_sem, mis_smp, exp_smp, men_smp, sho_smp, exp_alo] <;> rfl) (by simp only [go_sem] <;> rfl) (by simp only [go_sem] <;> rfl) ?_
  refine OpenK.op (by simp only [go_sem, mis_smp, exp_smp, men_smp, sho_smp, exp_alo] <;> rfl) (by simp only [go_sem] <;> rfl) (by simp only [go_sem] <;> rfl) ?_
  refine OpenK.yes (by simp only [go_sem] <;> rfl) (by simp only [go_sem, mis_smp, exp_smp, men_smp, sho_smp, exp_alo] <;> rfl) (by simp only [go_sem] <;> rfl) (by simp only [go_sem] <;> rfl) ?_
  refine OpenK.yes (by simp only [go_sem] <;> rfl) (by simp only [go_sem, mis_smp, exp_smp, men_smp, sho_smp, exp_alo] <;> rfl) (by simp only [go_sem] <;> rfl) (by simp only [go_sem] <;> rfl) ?_
  refine OpenK.op (by simp only [go_sem, mis_smp, exp_smp, men_smp, sho_smp, exp_alo] <;> rfl) (by simp only [go_sem] <;> rfl) (by simp only [go_sem] <;> rfl) ?_
  refine OpenK.op (by simp only [go_sem, mis_smp, exp_smp, men_smp, sho_smp, exp_alo] <;> rfl) (by simp only [go_sem] <;> rfl) (by simp only [go_sem] <;> rfl) ?_
  refine OpenK.yes (by simp only [go_sem] <;> rfl) (by simp only [go_sem, mis_smp, exp_smp, men_smp, sho_smp, exp_alo] <;> rfl) (by simp only [go_sem] <;> rfl) (by simp only [go_sem] <;> rfl) ?_
  refine OpenK.yes (by simp only [go_sem] <;> rfl) (by simp only [go_sem, mis_smp, exp_smp, men_smp, sho_smp, exp_alo] <;> rfl) (by simp only [go_sem] <;> rfl) (by simp only [go_sem] <;> rfl) ?_
  refine OpenK.bfz (by simp only [go_sem] <;> rfl) (by simp only [go_sem, mis_smp, exp_smp, men_smp, sho_smp, exp_alo] <;> rfl) (by rfl) (by simp) (by simp only [go_sem] <;> rfl) (by simp only [go_sem] <;> rfl) ?_
  refine OpenK.calw (by simp only [go_sem] <;> rfl) (c_meterworksref12_Repairs [⟨0, 2, 3, 0⟩] [⟨0, 2, 3, 0⟩] (by decide) (by decide)) (by simp only [go_sem]) (by simp only [go_sem, mis_smp, exp_smp, men_smp, sho_smp, exp_alo] <;> rfl) (by simp only [go_sem, mis_smp, exp_smp, men_smp, sho_smp, exp_alo] <;> rfl) (by exact ⟨by first | exact WkR.pure rfl | exact WkR.nil _ | exact WkR.int (by first | omega | (simp; done) | (simp; omega)), by first | exact WkR.pure rfl | exact WkR.nil _ | exact WkR.int (by first | omega | (simp; done) | (simp; omega)), trivial⟩) (fr0) (by simp only [go_sem, mis_smp, exp_smp, men_smp, sho_smp, exp_alo] <;> rfl) (by simp only [go_sem] <;> rfl) (by simp only [go_sem] <;> rfl) ?_
  refine OpenK.op (by simp only [go_sem, mis_smp, exp_smp, men_smp, sho_smp, exp_alo] <;> rfl) (by simp only [go_sem] <;> rfl) (by simp only [go_sem] <;> rfl) ?_
  refine OpenK.op (by simp only [go_sem, mis_smp, exp_smp, men_smp, sho_smp, exp_alo] <;> rfl) (by simp only [go_sem] <;> rfl) (by simp only [go_sem] <;> rfl) ?_
  refine OpenK.yes (by simp only [go_sem] <;> rfl) (by simp only [go_sem, mis_smp, exp_smp, men_smp, sho_smp, exp_alo] <;> rfl) (by simp only [go_sem] <;> rfl) (by simp only [go_sem] <;> rfl) ?_
  refine OpenK.yes (by simp only [go_sem] <;> rfl) (by simp only [go_sem, mis_smp, exp_smp, men_smp, sho_smp, exp_alo] <;> rfl) (by simp only [go_sem] <;> rfl) (by simp only [go_sem] <;> rfl) ?_
  refine OpenK.op (by simp only [go_sem, mis_smp, exp_smp, men_smp, sho_smp, exp_alo] <;> rfl) (by simp only [go_sem] <;> rfl) (by simp only [go_sem] <;> rfl) ?_
  refine OpenK.op (by simp only [go_sem, mis_smp, exp_smp, men_smp, sho_smp, exp_alo] <;> rfl) (by simp only [go_sem] <;> rfl) (by simp only [go_sem] <;> rfl) ?_
  refine OpenK.yes (by simp only [go_sem] <;> rfl) (by simp only [go_sem, mis_smp, exp_smp, men_smp, sho_smp, exp_alo] <;> rfl) (by simp only [go_sem] <;> rfl) (by simp only [go_sem] <;> rfl) ?_
  refine OpenK.yes (by simp only [go_sem] <;> rfl) (by simp only [go_sem, mis_smp, exp_smp, men_smp, sho_smp, exp_alo] <;> rfl) (by simp only [go_sem] <;> rfl) (by simp only [go_sem] <;> rfl) ?_
  refine OpenK.yes (by simp only [go_sem] <;> rfl) (by simp only [go_sem, mis_smp, exp_smp, men_smp, sho_smp, exp_alo] <;> rfl) (by simp only [go_sem] <;> rfl) (by simp only [go_sem] <;> rfl) ?_
  refine OpenK.calw (by simp only [go_sem] <;> rfl) (c_meterworksref12_Readings smpF smpF (by decide) (by decide)) (by simp only [go_sem]) (by simp only [go_sem, mis_smp, exp_smp, men_smp, sho_smp, exp_alo] <;> rfl) (by simp only [go_sem, mis_smp, exp_smp, men_smp, sho_smp, exp_alo] <;> rfl) (by exact ⟨by first | exact WkR.pure rfl | exact WkR.nil _ | exact WkR.int (by first | omega | (simp; done) | (simp; omega)), by first | exact WkR.pure rfl | exact WkR.nil _ | exact WkR.int (by first | omega | (simp; done) | (simp; omega)), trivial⟩) (fr0) (by simp only [go_sem, mis_smp, exp_smp, men_smp, sho_smp, exp_alo] <;> rfl) (by simp only [go_sem] <;> rfl) (by simp only [go_sem] <;> rfl) ?_
  refine OpenK.op (by simp only [go_sem, mis_smp, exp_smp, men_smp, sho_smp, exp_alo] <;> rfl) (by simp only [go_sem] <;> rfl) (by simp only [go_sem] <;> rfl) ?_
  refine OpenK.op (by simp only [go_sem, mis_smp, exp_smp, men_smp, sho_smp, exp_alo] <;> rfl) (by simp only [go_sem] <;> rfl) (by simp only [go_sem] <;> rfl) ?_
  refine OpenK.yes (by simp only [go_sem] <;> rfl) (by simp only [go_sem, mis_smp, exp_smp, men_smp, sho_smp, exp_alo] <;> rfl) (by simp only [go_sem] <;> rfl) (by simp only [go_sem] <;> rfl) ?_
  refine OpenK.yes (by simp only [go_sem] <;> rfl) (by simp only [go_sem, mis_smp, exp_smp, men_smp, sho_smp, exp_alo] <;> rfl) (by simp only [go_sem] <;> rfl) (by simp only [go_sem] <;> rfl) ?_
  refine OpenK.op (by simp only [go_sem, mis_smp, exp_smp, men_smp, sho_smp, exp_alo] <;> rfl) (by simp only [go_sem] <;> rfl) (by simp only [go_sem] <;> rfl) ?_
  refine OpenK.op (by simp only [go_sem, mis_smp, exp_smp, men_smp, sho_smp, exp_alo] <;> rfl) (by simp only [go_sem] <;> rfl) (by simp only [go_sem] <;> rfl) ?_
  refine OpenK.yes (by simp only [go_sem] <;> rfl) (by simp only [go_sem, mis_smp, exp_smp, men_smp, sho_smp, exp_alo] <;> rfl) (by simp only [go_sem] <;> rfl) (by simp only [go_sem] <;> rfl) ?_
  refine OpenK.calw (by simp only [go_sem] <;> rfl) (c_law_span _ _) (by simp only [go_sem]) (by simp only [go_sem, mis_smp, exp_smp, men_smp, sho_smp, exp_alo] <;> rfl) (by simp only [go_sem, mis_smp, exp_smp, men_smp, sho_smp, exp_alo] <;> rfl) (by exact ⟨by first | exact WkR.pure rfl | exact WkR.nil _ | exact WkR.int (by first | omega | (simp; done) | (simp; omega)), by first | exact WkR.pure rfl | exact WkR.nil _ | exact WkR.int (by first | omega | (simp; done) | (simp; omega)), trivial⟩) (fr0) (by simp only [go_sem, mis_smp, exp_smp, men_smp, sho_smp, exp_alo] <;> rfl) (by simp only [go_sem] <;> rfl) (by simp only [go_sem] <;> rfl) ?_
  refine OpenK.yes (by simp only [go_sem] <;> rfl) (by simp only [go_sem, mis_smp, exp_smp, men_smp, sho_smp, exp_alo] <;> rfl) (by simp only [go_sem] <;> rfl) (by simp only [go_sem] <;> rfl) ?_
  refine OpenK.op (by simp only [go_sem, mis_smp, exp_smp, men_smp, sho_smp, exp_alo] <;> rfl) (by simp only [go_sem] <;> rfl) (by simp only [go_sem] <;> rfl) ?_
  refine OpenK.op (by simp only [go_sem, mis_smp, exp_smp, men_smp, sho_smp, exp_alo] <;> rfl) (by simp only [go_sem] <;> rfl) (by simp only [go_sem] <;> rfl) ?_
  refine OpenK.yes (by simp only [go_sem] <;> rfl) (by simp only [go_sem, mis_smp, exp_smp, men_smp, sho_smp, exp_alo] <;> rfl) (by simp only [go_sem] <;> rfl) (by simp only [go_sem] <;> rfl) ?_
  refine OpenK.yes (by simp only [go_sem] <;> rfl) (by simp only [go_sem, mis_smp, exp_smp, men_smp, sho_smp, exp_alo] <;> rfl) (by simp only [go_sem] <;> rfl) (by simp only [go_sem] <;> rfl) ?_
  refine OpenK.op (by simp only [go_sem, mis_smp, exp_smp, men_smp, sho_smp, exp_alo] <;> rfl) (by simp only [go_sem] <;> rfl) (by simp only [go_sem] <;> rfl) ?_
  refine OpenK.op (by simp only [go_sem, mis_smp, exp_smp, men_smp, sho_smp, exp_alo] <;> rfl) (by simp only [go_sem] <;> rfl) (by simp only [go_sem] <;> rfl) ?_
  refine OpenK.yes (by simp only [go_sem] <;> rfl) (by simp only [go_sem, mis_smp, exp_smp, men_smp, sho_smp, exp_alo] <;> rfl) (by simp only [go_sem] <;> rfl) (by simp only [go_sem] <;> rfl) ?_
  refine OpenK.yes (by simp only [go_sem] <;> rfl) (by simp only [go_sem, mis_smp, exp_smp, men_smp, sho_smp, exp_alo] <;> rfl) (by simp only [go_sem] <;> rfl) (by simp only [go_sem] <;> rfl) ?_
  refine OpenK.bfz (by simp only [go_sem] <;> rfl) (by simp only [go_sem, mis_smp, exp_smp, men_smp, sho_smp, exp_alo] <;> rfl) (by rfl) (by simp) (by simp only [go_sem] <;> rfl) (by simp only [go_sem] <;> rfl) ?_
  refine OpenK.calw (by simp only [go_sem] <;> rfl) (c_meterworksref12_Repairs [⟨2, 1, 5, 8⟩] [⟨2, 1, 5, 8⟩] (by decide) (by decide)) (by simp only [go_sem]) (by simp only [go_sem, mis_smp, exp_smp, men_smp, sho_smp, exp_alo] <;> rfl) (by simp only [go_sem, mis_smp, exp_smp, men_smp, sho_smp, exp_alo] <;> rfl) (by exact ⟨by first | exact WkR.pure rfl | exact WkR.nil _ | exact WkR.int (by first | omega | (simp; done) | (simp; omega)), by first | exact WkR.pure rfl | exact WkR.nil _ | exact WkR.int (by first | omega | (simp; done) | (simp; omega)), trivial⟩) (fr0) (by simp only [go_sem, mis_smp, exp_smp, men_smp, sho_smp, exp_alo] <;> rfl) (by simp only [go_sem] <;> rfl) (by simp only [go_sem] <;> rfl) ?_
  refine OpenK.op (by simp only [go_sem, mis_smp, exp_smp, men_smp, sho_smp, exp_alo] <;> rfl) (by simp only [go_sem] <;> rfl) (by simp only [go_sem] <;> rfl) ?_
  refine OpenK.op (by simp only [go_sem, mis_smp, exp_smp, men_smp, sho_smp, exp_alo] <;> rfl) (by simp only [go_sem] <;> rfl) (by simp only [go_sem] <;> rfl) ?_
  refine OpenK.yes (by simp only [go_sem] <;> rfl) (by simp only [go_sem, mis_smp, exp_smp, men_smp, sho_smp, exp_alo] <;> rfl) (by simp only [go_sem] <;> rfl) (by simp only [go_sem] <;> rfl) ?_
  refine OpenK.yes (by simp only [go_sem] <;> rfl) (by simp only [go_sem, mis_smp, exp_smp, men_smp, sho_smp, exp_alo] <;> rfl) (by simp only [go_sem] <;> rfl) (by simp only [go_sem] <;> rfl) ?_
  refine OpenK.op (by simp only [go_sem, mis_smp, exp_smp, men_smp, sho_smp, exp_alo] <;> rfl) (by simp only [go_sem] <;> rfl) (by simp only [go_sem] <;> rfl) ?_
  refine OpenK.op (by simp only [go_sem, mis_smp, exp_smp, men_smp, sho_smp, exp_alo] <;> rfl) (by simp only [go_sem] <;> rfl) (by simp only [go_sem] <;> rfl) ?_
  refine OpenK.nil (OpenE.finT (by kernel_rfl) (by kernel_rfl) (by kernel_rfl) ?_)
  exact Ends.fin [] (rs := [.tmp 0]) rfl (by simp only [go_sem, mis_smp, exp_smp, men_smp, sho_smp, exp_alo] <;> rfl) (by simp only [go_sem, mis_smp, exp_smp, men_smp, sho_smp, exp_alo] <;> first | rfl | ((repeat' (first | with_reducible_and_instances rfl | refine st_eq ?_ ?_ ?_ | refine ret_eq ?_ | refine tup_eq ?_ | refine tm_eq ?_ ?_ | refine arr_eq ?_ | refine cells_eq ?_ | refine val_eq ?_ | refine ls_eq ?_ ?_ | refine own_eq ?_ ?_ | refine sl_eq ?_ | refine b_eq ?_ | (refine i_eq ?_; omega))); done))

end Go.Mw

/- Contracts of the functions that the card reaches: plain ones. -/
import Derived.Test.YtfmdonllhchdpaaB4
set_option linter.unusedSimpArgs false
set_option linter.unusedVariables false
set_option linter.unusedSectionVars false
set_option linter.deprecated false
namespace Go.Mw
open Go.Proofs
set_option maxRecDepth 20000 in
/-- meterworks/meterworksref12.in -/
theorem c_meterworksref12_in (n l h : Int) : Contract Try.prog 41 [.int n, .int l, .int h] (.bool (inB n l h)) [] := by
  refine con_of follows_mixed Try.func41 rfl (by simp only [List.length_cons, List.length_nil, Try.ntmps41]; omega) (by kernel_rfl) rfl ?_
  refine Exec.reg ?_
  refine Run.op (by simp only [go_sem] <;> rfl) (by simp only [go_sem] <;> rfl) ?_
  refine Run.nil ?_
  refine Exec.reg ?_
  iterate 4 (refine Run.op (by simp only [go_sem] <;> rfl) (by simp only [go_sem] <;> rfl) ?_)
  refine Run.gop (by simp only [go_sem] <;> rfl) (by simp only [go_sem] <;> rfl) (by simp only [go_sem] <;> rfl) ?_
  refine Run.gop (by simp only [go_sem] <;> rfl) (by simp only [go_sem] <;> rfl) (by simp only [go_sem] <;> rfl) ?_
  refine Run.gop (by simp only [go_sem] <;> rfl) (by simp only [go_sem] <;> rfl) (by simp only [go_sem] <;> rfl) ?_
  iterate 2 (refine Run.op (by simp only [go_sem] <;> rfl) (by simp only [go_sem] <;> rfl) ?_)
  refine Run.nil ?_
  exact Ends.fin [] (rs := [.tmp 6]) rfl (by simp only [go_sem] <;> rfl) (by simp only [go_sem] <;> first | rfl | ((repeat' (first | with_reducible_and_instances rfl | refine st_eq ?_ ?_ ?_ | refine ret_eq ?_ | refine tup_eq ?_ | refine tm_eq ?_ ?_ | refine arr_eq ?_ | refine cells_eq ?_ | refine val_eq ?_ | refine ls_eq ?_ ?_ | refine own_eq ?_ ?_ | refine sl_eq ?_ | refine b_eq ?_ | (refine i_eq ?_; omega))); done))

set_option maxRecDepth 20000 in
/-- meterworks/card.within -/
theorem c_card_within (n l h : Int) : Contract Try.prog 36 [.int n, .int l, .int h] (.bool (inB n l h)) [] := by
  refine con_of follows_mixed Try.func36 rfl (by simp only [List.length_cons, List.length_nil, Try.ntmps36]; omega) (by kernel_rfl) rfl ?_
  refine Exec.reg ?_
  refine Run.op (by simp only [go_sem] <;> rfl) (by simp only [go_sem] <;> rfl) ?_
  refine Run.nil ?_
  refine Exec.reg ?_
  iterate 4 (refine Run.op (by simp only [go_sem] <;> rfl) (by simp only [go_sem] <;> rfl) ?_)
  refine Run.gop (by simp only [go_sem] <;> rfl) (by simp only [go_sem] <;> rfl) (by simp only [go_sem] <;> rfl) ?_
  refine Run.gop (by simp only [go_sem] <;> rfl) (by simp only [go_sem] <;> rfl) (by simp only [go_sem] <;> rfl) ?_
  refine Run.gop (by simp only [go_sem] <;> rfl) (by simp only [go_sem] <;> rfl) (by simp only [go_sem] <;> rfl) ?_
  iterate 2 (refine Run.op (by simp only [go_sem] <;> rfl) (by simp only [go_sem] <;> rfl) ?_)
  refine Run.nil ?_
  exact Ends.fin [] (rs := [.tmp 6]) rfl (by simp only [go_sem] <;> rfl) (by simp only [go_sem] <;> first | rfl | ((repeat' (first | with_reducible_and_instances rfl | refine st_eq ?_ ?_ ?_ | refine ret_eq ?_ | refine tup_eq ?_ | refine tm_eq ?_ ?_ | refine arr_eq ?_ | refine cells_eq ?_ | refine val_eq ?_ | refine ls_eq ?_ ?_ | refine own_eq ?_ ?_ | refine sl_eq ?_ | refine b_eq ?_ | (refine i_eq ?_; omega))); done))

set_option maxRecDepth 20000 in
/-- meterworks/meterworksref12.Walk -/
theorem c_meterworksref12_Walk (w : Walk) (h1 : w.rates.length ≤ 1000) (h2 : w.readings.length ≤ 1000) : Contract Try.prog 29 [walkV w] (.bool (walkB w)) [] := by
  refine con_of follows_mixed Try.func29 rfl (by simp only [List.length_cons, List.length_nil, Try.ntmps29]; omega) (by kernel_rfl) rfl ?_
  refine Exec.reg ?_
  iterate 2 (refine Run.op (by simp only [go_sem] <;> rfl) (by simp only [go_sem] <;> rfl) ?_)
  refine Run.nil ?_
  refine Exec.assocS ?_
  refine Exec.reg ?_
  refine Run.op (by simp only [go_sem] <;> rfl) (by simp only [go_sem] <;> rfl) ?_
  refine Run.nil ?_
  refine Exec.blk ?_
  refine Exec.forA [1, 3] [1] (w.rates.length) (fun k => [.slot 3 (.int k)]) (fun k => (w.rates.take k).all rateB = true) (fun k => by simp only [go_sem] <;> rfl) (by simp only [go_sem] <;> rfl) ?_ (fun k hk hX => ?_)
  · rfl
  · skip
    refine Exec.assocS ?_
    refine Exec.reg ?_
    iterate 5 (refine Run.op (by simp only [go_sem] <;> rfl) (by simp only [go_sem] <;> rfl) ?_)
    refine Run.nil ?_
    refine Exec.cndS (by simp only [go_sem] <;> rfl) (fun hb11 => ?_) (fun hb11 => ?_)
    · skip
      have hlt := lt_of_dec hb11
      have hs := rt_get hlt
      refine Exec.skipS ?_
      refine Exec.blk ?_
      refine Exec.reg ?_
      iterate 3 (refine Run.op (by simp only [go_sem, hs] <;> rfl) (by simp only [go_sem] <;> rfl) ?_)
      refine Run.op (by simp only [go_sem, hs]; (try simp (disch := omega) only [if_pos]); (try simp only [go_sem, hs])<;> rfl) (by simp only [go_sem] <;> rfl) ?_
      iterate 3 (refine Run.op (by simp only [go_sem, hs] <;> rfl) (by simp only [go_sem] <;> rfl) ?_)
      refine Run.nil ?_
      refine Exec.reg ?_
      iterate 4 (refine Run.op (by simp only [go_sem, hs] <;> rfl) (by simp only [go_sem] <;> rfl) ?_)
      refine Run.gop (by simp only [go_sem] <;> rfl) (by simp only [go_sem, hs] <;> rfl) (by simp only [go_sem] <;> rfl) ?_
      refine Run.gop (by simp only [go_sem] <;> rfl) (by simp only [go_sem, hs] <;> rfl) (by simp only [go_sem] <;> rfl) ?_
      refine Run.gop (by simp only [go_sem] <;> rfl) (by simp only [go_sem, hs] <;> rfl) (by simp only [go_sem] <;> rfl) ?_
      refine Run.gop (by simp only [go_sem] <;> rfl) (by simp only [go_sem, hs] <;> rfl) (by simp only [go_sem] <;> rfl) ?_
      refine Run.gop (by simp only [go_sem] <;> rfl) (by simp only [go_sem, hs] <;> rfl) (by simp only [go_sem] <;> rfl) ?_
      iterate 2 (refine Run.op (by simp only [go_sem, hs] <;> rfl) (by simp only [go_sem] <;> rfl) ?_)
      refine Run.gop (by simp only [go_sem] <;> rfl) (by simp only [go_sem, hs] <;> rfl) (by simp only [go_sem] <;> rfl) ?_
      refine Run.gop (by simp only [go_sem] <;> rfl) (by simp only [go_sem, hs] <;> rfl) (by simp only [go_sem] <;> rfl) ?_
      refine Run.gop (by simp only [go_sem] <;> rfl) (by simp only [go_sem, hs] <;> rfl) (by simp only [go_sem] <;> rfl) ?_
      refine Run.op (by simp only [go_sem, hs] <;> rfl) (by simp only [go_sem] <;> rfl) ?_
      refine Run.nil ?_
      refine Exec.cnd (by simp only [go_sem, hs] <;> rfl) (fun hb33 => ?_) (fun hb33 => ?_)
      · skip
        have hr : walkB w = false := by rw [walkB, all_stop hs (by simp [rateB, hb33])]; rfl
        refine Exec.reg ?_
        refine Run.op (by simp only [go_sem, hs, hr] <;> rfl) (by simp only [go_sem] <;> rfl) ?_
        refine Run.nil ?_
        refine BlkK.ret ?_
        refine ForK.ret ?_
        refine BlkK.ret ?_
        exact Ends.fin [] (rs := [.tmp 2]) rfl (by simp only [go_sem, hs, hr] <;> rfl) (by simp only [go_sem, hs, hr] <;> first | rfl | ((repeat' (first | with_reducible_and_instances rfl | refine st_eq ?_ ?_ ?_ | refine ret_eq ?_ | refine tup_eq ?_ | refine tm_eq ?_ ?_ | refine arr_eq ?_ | refine cells_eq ?_ | refine val_eq ?_ | refine ls_eq ?_ ?_ | refine own_eq ?_ ?_ | refine sl_eq ?_ | refine b_eq ?_ | (refine i_eq ?_; omega))); done))
      · skip
        refine BlkK.nrm ?_
        refine Exec.reg1 ?_
        refine Run.op (by simp only [go_sem, hs] <;> rfl) (by simp only [go_sem] <;> rfl) ?_
        refine Run.op (by simp only [go_sem, hs]; (try simp (disch := omega) only [IntWalk.i64_in, IntWalk.u64_in, if_neg, if_pos])<;> rfl) (by simp only [go_sem] <;> rfl) ?_
        refine Run.op (by simp only [go_sem, hs] <;> rfl) (by simp only [go_sem] <;> rfl) ?_
        refine Run.nil ?_
        refine ForK.nxt ?_ ?_ ?_
        · omega
        · exact Ghost.kp [1, 3] [1] (by simp only [go_sem, hs]; first | ((repeat' (first | with_reducible_and_instances rfl | refine st_eq ?_ ?_ ?_ | refine ret_eq ?_ | refine tup_eq ?_ | refine tm_eq ?_ ?_ | refine arr_eq ?_ | refine cells_eq ?_ | refine val_eq ?_ | refine ls_eq ?_ ?_ | refine own_eq ?_ ?_ | refine sl_eq ?_ | refine b_eq ?_ | (refine i_eq ?_; omega))); done) | rfl)
        · exact all_step hX hs (by simpa [rateB] using hb33)
    · skip
      have hr1 := all_done hX (ge_of_dec hb11)
      refine Exec.exitS ?_
      refine ForK.ext ?_
      refine BlkK.hit ?_
      refine Exec.assocS ?_
      refine Exec.reg ?_
      refine Run.op (by simp only [go_sem] <;> rfl) (by simp only [go_sem] <;> rfl) ?_
      refine Run.nil ?_
      refine Exec.blk ?_
      refine Exec.forA [1, 5] [1] (w.readings.length) (fun k => [.slot 5 (.int k)]) (fun k => (w.readings.take k).all (readB w.rates.length) = true) (fun k => by simp only [go_sem] <;> rfl) (by simp only [go_sem] <;> rfl) ?_ (fun k hk hX => ?_)
      · rfl
      · skip
        refine Exec.assocS ?_
        refine Exec.reg ?_
        iterate 5 (refine Run.op (by simp only [go_sem] <;> rfl) (by simp only [go_sem] <;> rfl) ?_)
        refine Run.nil ?_
        refine Exec.cndS (by simp only [go_sem] <;> rfl) (fun hb38 => ?_) (fun hb38 => ?_)
        · skip
          have hlt := lt_of_dec hb38
          have hs := rd_get hlt
          refine Exec.skipS ?_
          refine Exec.blk ?_
          refine Exec.reg ?_
          iterate 3 (refine Run.op (by simp only [go_sem, hs] <;> rfl) (by simp only [go_sem] <;> rfl) ?_)
          refine Run.op (by simp only [go_sem, hs]; (try simp (disch := omega) only [if_pos]); (try simp only [go_sem, hs])<;> rfl) (by simp only [go_sem] <;> rfl) ?_
          iterate 3 (refine Run.op (by simp only [go_sem, hs] <;> rfl) (by simp only [go_sem] <;> rfl) ?_)
          refine Run.nil ?_
          refine Exec.reg ?_
          iterate 5 (refine Run.op (by simp only [go_sem, hs] <;> rfl) (by simp only [go_sem] <;> rfl) ?_)
          refine Run.op (by simp only [go_sem, hs]; (try simp (disch := omega) only [IntWalk.i64_in, IntWalk.u64_in, if_neg, if_pos])<;> rfl) (by simp only [go_sem] <;> rfl) ?_
          refine Run.cal (c_meterworksref12_in _ _ _) (by simp only [go_sem]) (by simp only [go_sem, hs] <;> rfl) (by exact ⟨by first | exact WkR.pure rfl | exact WkR.nil _ | exact WkR.int (by first | omega | (simp; done) | (simp; omega)), by first | exact WkR.pure rfl | exact WkR.nil _ | exact WkR.int (by first | omega | (simp; done) | (simp; omega)), by first | exact WkR.pure rfl | exact WkR.nil _ | exact WkR.int (by first | omega | (simp; done) | (simp; omega)), trivial⟩) (fr0) (by simp only [go_sem, hs] <;> rfl) ?_
          iterate 2 (refine Run.op (by simp only [go_sem, hs] <;> rfl) (by simp only [go_sem] <;> rfl) ?_)
          refine Run.gop (by simp only [go_sem] <;> rfl) (by simp only [go_sem, hs] <;> rfl) (by simp only [go_sem] <;> rfl) ?_
          refine Run.gop (by simp only [go_sem] <;> rfl) (by simp only [go_sem, hs] <;> rfl) (by simp only [go_sem] <;> rfl) ?_
          refine Run.gcal (by simp only [go_sem] <;> rfl) (c_meterworksref12_in _ _ _) (by simp only [go_sem]) (by simp only [go_sem, hs] <;> rfl) (by exact ⟨by first | exact WkR.pure rfl | exact WkR.nil _ | exact WkR.int (by first | omega | (simp; done) | (simp; omega)), by first | exact WkR.pure rfl | exact WkR.nil _ | exact WkR.int (by first | omega | (simp; done) | (simp; omega)), by first | exact WkR.pure rfl | exact WkR.nil _ | exact WkR.int (by first | omega | (simp; done) | (simp; omega)), trivial⟩) (by simp only [go_sem, hs] <;> rfl) ?_
          refine Run.gop (by simp only [go_sem] <;> rfl) (by simp only [go_sem, hs] <;> rfl) (by simp only [go_sem] <;> rfl) ?_
          iterate 2 (refine Run.op (by simp only [go_sem, hs] <;> rfl) (by simp only [go_sem] <;> rfl) ?_)
          refine Run.gop (by simp only [go_sem] <;> rfl) (by simp only [go_sem, hs] <;> rfl) (by simp only [go_sem] <;> rfl) ?_
          refine Run.gop (by simp only [go_sem] <;> rfl) (by simp only [go_sem, hs] <;> rfl) (by simp only [go_sem] <;> rfl) ?_
          refine Run.gcal (by simp only [go_sem] <;> rfl) (c_meterworksref12_in _ _ _) (by simp only [go_sem]) (by simp only [go_sem, hs] <;> rfl) (by exact ⟨by first | exact WkR.pure rfl | exact WkR.nil _ | exact WkR.int (by first | omega | (simp; done) | (simp; omega)), by first | exact WkR.pure rfl | exact WkR.nil _ | exact WkR.int (by first | omega | (simp; done) | (simp; omega)), by first | exact WkR.pure rfl | exact WkR.nil _ | exact WkR.int (by first | omega | (simp; done) | (simp; omega)), trivial⟩) (by simp only [go_sem, hs] <;> rfl) ?_
          refine Run.gop (by simp only [go_sem] <;> rfl) (by simp only [go_sem, hs] <;> rfl) (by simp only [go_sem] <;> rfl) ?_
          refine Run.op (by simp only [go_sem, hs] <;> rfl) (by simp only [go_sem] <;> rfl) ?_
          refine Run.nil ?_
          refine Exec.cnd (by simp only [go_sem, hs] <;> rfl) (fun hb65 => ?_) (fun hb65 => ?_)
          · skip
            have hr : walkB w = false := by rw [walkB, hr1, all_stop hs (by revert hb65; cases h1 : inB (rd w k).house 0 (↑w.rates.length - 1) <;> cases h2 : inB (rd w k).day 0 131072 <;> cases h3 : inB (rd w k).shows 0 1073741824 <;> simp [readB, h1, h2, h3])]; rfl
            refine Exec.reg ?_
            refine Run.op (by simp only [go_sem, hs, hr] <;> rfl) (by simp only [go_sem] <;> rfl) ?_
            refine Run.nil ?_
            refine BlkK.ret ?_
            refine ForK.ret ?_
            refine BlkK.ret ?_
            exact Ends.fin [] (rs := [.tmp 2]) rfl (by simp only [go_sem, hs, hr] <;> rfl) (by simp only [go_sem, hs, hr] <;> first | rfl | ((repeat' (first | with_reducible_and_instances rfl | refine st_eq ?_ ?_ ?_ | refine ret_eq ?_ | refine tup_eq ?_ | refine tm_eq ?_ ?_ | refine arr_eq ?_ | refine cells_eq ?_ | refine val_eq ?_ | refine ls_eq ?_ ?_ | refine own_eq ?_ ?_ | refine sl_eq ?_ | refine b_eq ?_ | (refine i_eq ?_; omega))); done))
          · skip
            refine BlkK.nrm ?_
            refine Exec.reg1 ?_
            refine Run.op (by simp only [go_sem, hs] <;> rfl) (by simp only [go_sem] <;> rfl) ?_
            refine Run.op (by simp only [go_sem, hs]; (try simp (disch := omega) only [IntWalk.i64_in, IntWalk.u64_in, if_neg, if_pos])<;> rfl) (by simp only [go_sem] <;> rfl) ?_
            refine Run.op (by simp only [go_sem, hs] <;> rfl) (by simp only [go_sem] <;> rfl) ?_
            refine Run.nil ?_
            refine ForK.nxt ?_ ?_ ?_
            · omega
            · exact Ghost.kp [1, 5] [1] (by simp only [go_sem, hs]; first | ((repeat' (first | with_reducible_and_instances rfl | refine st_eq ?_ ?_ ?_ | refine ret_eq ?_ | refine tup_eq ?_ | refine tm_eq ?_ ?_ | refine arr_eq ?_ | refine cells_eq ?_ | refine val_eq ?_ | refine ls_eq ?_ ?_ | refine own_eq ?_ ?_ | refine sl_eq ?_ | refine b_eq ?_ | (refine i_eq ?_; omega))); done) | rfl)
            · exact all_step hX hs (by simpa [readB, and_assoc] using hb65)
        · skip
          have hr : walkB w = (inB w.rates.length 1 8 && decide ((w.readings.length : Int) ≤ 24)) := by rw [walkB, hr1, all_done hX (ge_of_dec hb38)]; simp
          refine Exec.exitS ?_
          refine ForK.ext ?_
          refine BlkK.hit ?_
          refine Exec.reg ?_
          iterate 3 (refine Run.op (by simp only [go_sem, hr] <;> rfl) (by simp only [go_sem] <;> rfl) ?_)
          refine Run.cal (c_meterworksref12_in _ _ _) (by simp only [go_sem]) (by simp only [go_sem, hr] <;> rfl) (by exact ⟨by first | exact WkR.pure rfl | exact WkR.nil _ | exact WkR.int (by first | omega | (simp; done) | (simp; omega)), by first | exact WkR.pure rfl | exact WkR.nil _ | exact WkR.int (by first | omega | (simp; done) | (simp; omega)), by first | exact WkR.pure rfl | exact WkR.nil _ | exact WkR.int (by first | omega | (simp; done) | (simp; omega)), trivial⟩) (fr0) (by simp only [go_sem, hr] <;> rfl) ?_
          refine Run.op (by simp only [go_sem, hr] <;> rfl) (by simp only [go_sem] <;> rfl) ?_
          refine Run.gop (by simp only [go_sem] <;> rfl) (by simp only [go_sem, hr] <;> rfl) (by simp only [go_sem] <;> rfl) ?_
          refine Run.gop (by simp only [go_sem] <;> rfl) (by simp only [go_sem, hr] <;> rfl) (by simp only [go_sem] <;> rfl) ?_
          refine Run.gop (by simp only [go_sem] <;> rfl) (by simp only [go_sem, hr] <;> rfl) (by simp only [go_sem] <;> rfl) ?_
          refine Run.gop (by simp only [go_sem] <;> rfl) (by simp only [go_sem, hr] <;> rfl) (by simp only [go_sem] <;> rfl) ?_
          iterate 2 (refine Run.op (by simp only [go_sem, hr] <;> rfl) (by simp only [go_sem] <;> rfl) ?_)
          refine Run.nil ?_
          exact Ends.fin [] (rs := [.tmp 2]) rfl (by simp only [go_sem, hr] <;> rfl) (by simp only [go_sem, hr] <;> first | rfl | ((repeat' (first | with_reducible_and_instances rfl | refine st_eq ?_ ?_ ?_ | refine ret_eq ?_ | refine tup_eq ?_ | refine tm_eq ?_ ?_ | refine arr_eq ?_ | refine cells_eq ?_ | refine val_eq ?_ | refine ls_eq ?_ ?_ | refine own_eq ?_ ?_ | refine sl_eq ?_ | refine b_eq ?_ | (refine i_eq ?_; omega))); done))

set_option maxRecDepth 20000 in
/-- meterworks/meterworksref12.two -/
theorem c_meterworksref12_two (s : Span) (a b : Reading) (hs : 0 ≤ s.lo ∧ s.lo ≤ s.hi ∧ s.hi ≤ 100000) (ha : 0 ≤ a.day ∧ a.day ≤ 131072 ∧ 0 ≤ a.shows ∧ a.shows ≤ 1073741824) (hb : 0 ≤ b.day ∧ b.day ≤ 131072 ∧ 0 ≤ b.shows ∧ b.shows ≤ 1073741824) : Contract Try.prog 54 [spanV s, readingV a, readingV b] (.bool (twoB s a b)) [] := by
  have e1 := IntWalk.i64_in (b.day - a.day) (by omega)
  have e2 := IntWalk.i64_in (b.shows - a.shows) (by omega)
  have e3 := i64_mul (a := s.lo) (b := b.day - a.day) (by omega) (by omega)
  have e4 := i64_mul (a := s.hi) (b := b.day - a.day) (by omega) (by omega)
  refine con_of follows_mixed Try.func54 rfl (by simp only [List.length_cons, List.length_nil, Try.ntmps54]; omega) (by kernel_rfl) rfl ?_
  refine Exec.reg ?_
  iterate 4 (refine Run.op (by simp only [go_sem, e1, e2, e3, e4] <;> rfl) (by simp only [go_sem] <;> rfl) ?_)
  refine Run.nil ?_
  refine Exec.opk 14 ?_
  refine OpenK.op (by simp only [go_sem, e1, e2, e3, e4] <;> rfl) (by simp only [go_sem] <;> rfl) (by simp only [go_sem] <;> rfl) ?_
  refine OpenK.op (by simp only [go_sem, e1, e2, e3, e4] <;> rfl) (by simp only [go_sem] <;> rfl) (by simp only [go_sem] <;> rfl) ?_
  refine OpenK.op (by simp only [go_sem, e1, e2, e3, e4] <;> rfl) (by simp only [go_sem] <;> rfl) (by simp only [go_sem] <;> rfl) ?_
  refine OpenK.op (by simp only [go_sem, e1, e2, e3, e4] <;> rfl) (by simp only [go_sem] <;> rfl) (by simp only [go_sem] <;> rfl) ?_
  refine OpenK.op (by simp only [go_sem, e1, e2, e3, e4]; (try simp (disch := omega) only [IntWalk.i64_in, IntWalk.u64_in, if_neg, if_pos])<;> rfl) (by simp only [go_sem] <;> rfl) (by simp only [go_sem] <;> rfl) ?_
  refine OpenK.op (by simp only [go_sem, e1, e2, e3, e4] <;> rfl) (by simp only [go_sem] <;> rfl) (by simp only [go_sem] <;> rfl) ?_
  refine OpenK.op (by simp only [go_sem, e1, e2, e3, e4] <;> rfl) (by simp only [go_sem] <;> rfl) (by simp only [go_sem] <;> rfl) ?_
  refine OpenK.op (by simp only [go_sem, e1, e2, e3, e4] <;> rfl) (by simp only [go_sem] <;> rfl) (by simp only [go_sem] <;> rfl) ?_
  refine OpenK.op (by simp only [go_sem, e1, e2, e3, e4] <;> rfl) (by simp only [go_sem] <;> rfl) (by simp only [go_sem] <;> rfl) ?_
  refine OpenK.op (by simp only [go_sem, e1, e2, e3, e4]; (try simp (disch := omega) only [IntWalk.i64_in, IntWalk.u64_in, if_neg, if_pos])<;> rfl) (by simp only [go_sem] <;> rfl) (by simp only [go_sem] <;> rfl) ?_
  refine OpenK.op (by simp only [go_sem, e1, e2, e3, e4] <;> rfl) (by simp only [go_sem] <;> rfl) (by simp only [go_sem] <;> rfl) ?_
  refine OpenK.op (by simp only [go_sem, e1, e2, e3, e4] <;> rfl) (by simp only [go_sem] <;> rfl) (by simp only [go_sem] <;> rfl) ?_
  refine OpenK.nil (OpenE.fin (by decide +kernel) (by decide +kernel) ?_)
  refine Exec.reg ?_
  iterate 4 (refine Run.op (by simp only [go_sem, e1, e2, e3, e4] <;> rfl) (by simp only [go_sem] <;> rfl) ?_)
  refine Run.op (by simp only [go_sem, e1, e2, e3, e4]; (try simp (disch := omega) only [IntWalk.i64_in, IntWalk.u64_in, if_neg, if_pos])<;> rfl) (by simp only [go_sem] <;> rfl) ?_
  iterate 2 (refine Run.op (by simp only [go_sem, e1, e2, e3, e4] <;> rfl) (by simp only [go_sem] <;> rfl) ?_)
  refine Run.gop (by simp only [go_sem] <;> rfl) (by simp only [go_sem, e1, e2, e3, e4] <;> rfl) (by simp only [go_sem] <;> rfl) ?_
  refine Run.gop (by simp only [go_sem] <;> rfl) (by simp only [go_sem, e1, e2, e3, e4] <;> rfl) (by simp only [go_sem] <;> rfl) ?_
  refine Run.gop (by simp only [go_sem] <;> rfl) (by simp only [go_sem, e1, e2, e3, e4] <;> rfl) (by simp only [go_sem] <;> rfl) ?_
  refine Run.gop (by simp only [go_sem] <;> rfl) (by simp only [go_sem, e1, e2, e3, e4] <;> rfl) (by simp only [go_sem] <;> rfl) ?_
  refine Run.gop (by simp only [go_sem] <;> rfl) (by simp only [go_sem, e1, e2, e3, e4]; (try simp (disch := omega) only [IntWalk.i64_in, IntWalk.u64_in, if_neg, if_pos])<;> rfl) (by simp only [go_sem] <;> rfl) ?_
  refine Run.gop (by simp only [go_sem] <;> rfl) (by simp only [go_sem, e1, e2, e3, e4] <;> rfl) (by simp only [go_sem] <;> rfl) ?_
  iterate 2 (refine Run.op (by simp only [go_sem, e1, e2, e3, e4] <;> rfl) (by simp only [go_sem] <;> rfl) ?_)
  refine Run.nil ?_
  exact Ends.fin [] (rs := [.tmp 6]) rfl (by simp only [go_sem, e1, e2, e3, e4] <;> rfl) (by simp only [go_sem, e1, e2, e3, e4] <;> first | rfl | ((repeat' (first | with_reducible_and_instances rfl | refine st_eq ?_ ?_ ?_ | refine ret_eq ?_ | refine tup_eq ?_ | refine tm_eq ?_ ?_ | refine arr_eq ?_ | refine cells_eq ?_ | refine val_eq ?_ | refine ls_eq ?_ ?_ | refine own_eq ?_ ?_ | refine sl_eq ?_ | refine b_eq ?_ | (refine i_eq ?_; omega))); done))

end Go.Mw
namespace Go.Mw
open Go.Proofs
set_option maxRecDepth 20000 in
/-- meterworks/meterworksref12.Of -/
theorem c_meterworksref12_Of (w : Walk) (house : Int) (h1 : w.rates.length ≤ 1000) (h2 : w.readings.length ≤ 1000) : Contract Try.prog 42 [walkV w, .int house] (.leaf (.d (natsD (ofS w house)))) [] := by
  refine con_of follows_mixed Try.func42 rfl (by simp only [List.length_cons, List.length_nil, Try.ntmps42]; omega) (by kernel_rfl) rfl ?_
  refine Exec.reg ?_
  iterate 2 (refine Run.op (by simp only [go_sem] <;> rfl) (by simp only [go_sem] <;> rfl) ?_)
  refine Run.nil ?_
  refine Exec.reg ?_
  refine Run.op (by simp only [go_sem] <;> rfl) (by simp only [go_sem] <;> rfl) ?_
  refine Run.nil ?_
  refine Exec.assocS ?_
  refine Exec.reg ?_
  refine Run.nild 5 1 (by simp only [go_sem] <;> rfl) (by simp only [go_sem] <;> rfl) ?_
  refine Run.op (by simp only [go_sem] <;> rfl) (by simp only [go_sem] <;> rfl) ?_
  refine Run.nil ?_
  refine Exec.blk ?_
  refine Exec.forA [1, 2, 5, 6] [2] (w.readings.length) (fun k => [.slot 6 (.int k), .slot 5 (.leaf (.d (natsD (ofN w house k))))]) (fun _ => True) (fun k => by simp only [go_sem] <;> rfl) (by simp only [go_sem] <;> rfl) ?_ (fun k hk hX => ?_)
  · trivial
  · skip
    refine Exec.assocS ?_
    refine Exec.reg ?_
    iterate 5 (refine Run.op (by simp only [go_sem] <;> rfl) (by simp only [go_sem] <;> rfl) ?_)
    refine Run.nil ?_
    refine Exec.cndS (by simp only [go_sem] <;> rfl) (fun hb12 => ?_) (fun hb12 => ?_)
    · skip
      have hlt := lt_of_dec hb12
      have hs := rd_get hlt
      have hol := len_ofN w house k
      refine Exec.skipS ?_
      refine Exec.blk ?_
      refine Exec.assocS ?_
      refine Exec.reg ?_
      iterate 3 (refine Run.op (by simp only [go_sem, hs] <;> rfl) (by simp only [go_sem] <;> rfl) ?_)
      refine Run.op (by simp only [go_sem, hs]; (try simp (disch := omega) only [if_pos]); (try simp only [go_sem, hs])<;> rfl) (by simp only [go_sem] <;> rfl) ?_
      iterate 4 (refine Run.op (by simp only [go_sem, hs] <;> rfl) (by simp only [go_sem] <;> rfl) ?_)
      refine Run.nil ?_
      refine Exec.cndS (by simp only [go_sem, hs] <;> rfl) (fun hb22 => ?_) (fun hb22 => ?_)
      · skip
        have e : ofN w house (k + 1) = ofN w house k := by rw [ofN, if_neg (by simpa using hb22)]
        refine Exec.exitS ?_
        refine BlkK.hit ?_
        refine Exec.reg1 ?_
        refine Run.op (by simp only [go_sem, hs, e] <;> rfl) (by simp only [go_sem] <;> rfl) ?_
        refine Run.op (by simp only [go_sem, hs, e]; (try simp (disch := omega) only [IntWalk.i64_in, IntWalk.u64_in, if_neg, if_pos])<;> rfl) (by simp only [go_sem] <;> rfl) ?_
        refine Run.op (by simp only [go_sem, hs, e] <;> rfl) (by simp only [go_sem] <;> rfl) ?_
        refine Run.nil ?_
        refine ForK.nxt ?_ ?_ ?_
        · omega
        · exact Ghost.kp [1, 2, 5, 6] [2] (by simp only [go_sem, hs, e]; first | ((repeat' (first | with_reducible_and_instances rfl | refine st_eq ?_ ?_ ?_ | refine ret_eq ?_ | refine tup_eq ?_ | refine tm_eq ?_ ?_ | refine arr_eq ?_ | refine cells_eq ?_ | refine val_eq ?_ | refine ls_eq ?_ ?_ | refine own_eq ?_ ?_ | refine sl_eq ?_ | refine b_eq ?_ | (refine i_eq ?_; omega))); done) | rfl)
        · trivial
      · skip
        have hh : (rd w k).house = house := by simpa using hb22
        refine Exec.skipS ?_
        refine Exec.reg ?_
        iterate 3 (refine Run.op (by simp only [go_sem, hs] <;> rfl) (by simp only [go_sem] <;> rfl) ?_)
        refine Run.nil ?_
        refine Exec.blk ?_
        refine Exec.forA [1, 2, 5, 6, 7] [2] ((ofN w house k).length) (fun j => [.slot 7 (.int (((ofN w house k).length : Int) - (j : Int)))]) (fun j => atS w k (ofN w house k) (ofN w house k).length = atS w k (ofN w house k) ((ofN w house k).length - j)) (fun j => by simp only [go_sem] <;> rfl) (by simp only [go_sem, Int.sub_zero, Int.natCast_zero] <;> rfl) ?_ (fun j hj Xj => ?_)
        · rfl
        · skip
          refine Exec.assocS ?_
          by_cases hjl : j < (ofN w house k).length
          · skip
            have hg : decide (((ofN w house k).length : Int) - (j : Int) > 0) = true := by simp; omega
            have hLj : (ofN w house k).length - j = ((ofN w house k).length - (j + 1)) + 1 := by omega
            obtain ⟨x, hx⟩ : ∃ x, (ofN w house k)[(ofN w house k).length - (j + 1)]? = some x := ⟨_, List.getElem?_eq_getElem (by omega)⟩
            have hget : (ofN w house k)[(ofN w house k).length - (j + 1)]?.getD 0 = x := by rw [hx]; rfl
            have hxl := (mem_ofN.1 (List.mem_of_getElem? hx)).1
            have hsx := rd_get (w := w) (i := x) (by omega)
            have htn : (((ofN w house k).length : Int) - (j : Int) - 1).toNat = (ofN w house k).length - (j + 1) := by omega
            refine Exec.opk 23 ?_
            refine OpenK.op (by simp only [go_sem, hs, hg, hx, hsx, htn] <;> rfl) (by simp only [go_sem] <;> rfl) (by simp only [go_sem] <;> rfl) ?_
            refine OpenK.op (by simp only [go_sem, hs, hg, hx, hsx, htn] <;> rfl) (by simp only [go_sem] <;> rfl) (by simp only [go_sem] <;> rfl) ?_
            refine OpenK.op (by simp only [go_sem, hs, hg, hx, hsx, htn] <;> rfl) (by simp only [go_sem] <;> rfl) (by simp only [go_sem] <;> rfl) ?_
            refine OpenK.yes (by simp only [go_sem] <;> rfl) (by simp only [go_sem, hs, hg, hx, hsx, htn] <;> rfl) (by simp only [go_sem] <;> rfl) (by simp only [go_sem] <;> rfl) ?_
            refine OpenK.yes (by simp only [go_sem] <;> rfl) (by simp only [go_sem, hs, hg, hx, hsx, htn] <;> rfl) (by simp only [go_sem] <;> rfl) (by simp only [go_sem] <;> rfl) ?_
            refine OpenK.yes (by simp only [go_sem] <;> rfl) (by simp only [go_sem, hs, hg, hx, hsx, htn] <;> rfl) (by simp only [go_sem] <;> rfl) (by simp only [go_sem] <;> rfl) ?_
            refine OpenK.yes (by simp only [go_sem] <;> rfl) (by simp only [go_sem, hs, hg, hx, hsx, htn] <;> rfl) (by simp only [go_sem] <;> rfl) (by simp only [go_sem] <;> rfl) ?_
            refine OpenK.yes (by simp only [go_sem] <;> rfl) (by simp only [go_sem, hs, hg, hx, hsx, htn]; (try simp (disch := omega) only [IntWalk.i64_in, IntWalk.u64_in, if_neg, if_pos])<;> rfl) (by simp only [go_sem] <;> rfl) (by simp only [go_sem] <;> rfl) ?_
            refine OpenK.yes (by simp only [go_sem] <;> rfl) (by simp only [go_sem, hs, hg, hx, hsx, htn]; (try simp (disch := omega) only [if_pos]); (try simp only [go_sem, hs, hg, hx, hsx, htn])<;> rfl) (by simp only [go_sem] <;> rfl) (by simp only [go_sem] <;> rfl) ?_
            refine OpenK.yes (by simp only [go_sem] <;> rfl) (by simp only [go_sem, hs, hg, hx, hsx, htn] <;> rfl) (by simp only [go_sem] <;> rfl) (by simp only [go_sem] <;> rfl) ?_
            refine OpenK.yes (by simp only [go_sem] <;> rfl) (by simp only [go_sem, hs, hg, hx, hsx, htn]; (try simp (disch := omega) only [if_pos]); (try simp only [go_sem, hs, hg, hx, hsx, htn])<;> rfl) (by simp only [go_sem] <;> rfl) (by simp only [go_sem] <;> rfl) ?_
            refine OpenK.yes (by simp only [go_sem] <;> rfl) (by simp only [go_sem, hs, hg, hx, hsx, htn] <;> rfl) (by simp only [go_sem] <;> rfl) (by simp only [go_sem] <;> rfl) ?_
            refine OpenK.yes (by simp only [go_sem] <;> rfl) (by simp only [go_sem, hs, hg, hx, hsx, htn] <;> rfl) (by simp only [go_sem] <;> rfl) (by simp only [go_sem] <;> rfl) ?_
            refine OpenK.yes (by simp only [go_sem] <;> rfl) (by simp only [go_sem, hs, hg, hx, hsx, htn] <;> rfl) (by simp only [go_sem] <;> rfl) (by simp only [go_sem] <;> rfl) ?_
            refine OpenK.yes (by simp only [go_sem] <;> rfl) (by simp only [go_sem, hs, hg, hx, hsx, htn] <;> rfl) (by simp only [go_sem] <;> rfl) (by simp only [go_sem] <;> rfl) ?_
            refine OpenK.yes (by simp only [go_sem] <;> rfl) (by simp only [go_sem, hs, hg, hx, hsx, htn] <;> rfl) (by simp only [go_sem] <;> rfl) (by simp only [go_sem] <;> rfl) ?_
            refine OpenK.yes (by simp only [go_sem] <;> rfl) (by simp only [go_sem, hs, hg, hx, hsx, htn]; (try simp (disch := omega) only [if_pos]); (try simp only [go_sem, hs, hg, hx, hsx, htn])<;> rfl) (by simp only [go_sem] <;> rfl) (by simp only [go_sem] <;> rfl) ?_
            refine OpenK.yes (by simp only [go_sem] <;> rfl) (by simp only [go_sem, hs, hg, hx, hsx, htn] <;> rfl) (by simp only [go_sem] <;> rfl) (by simp only [go_sem] <;> rfl) ?_
            refine OpenK.yes (by simp only [go_sem] <;> rfl) (by simp only [go_sem, hs, hg, hx, hsx, htn] <;> rfl) (by simp only [go_sem] <;> rfl) (by simp only [go_sem] <;> rfl) ?_
            refine OpenK.yes (by simp only [go_sem] <;> rfl) (by simp only [go_sem, hs, hg, hx, hsx, htn] <;> rfl) (by simp only [go_sem] <;> rfl) (by simp only [go_sem] <;> rfl) ?_
            refine OpenK.op (by simp only [go_sem, hs, hg, hx, hsx, htn] <;> rfl) (by simp only [go_sem] <;> rfl) (by simp only [go_sem] <;> rfl) ?_
            refine OpenK.nil (OpenE.finT (by kernel_rfl) (by kernel_rfl) (by kernel_rfl) ?_)
            refine Exec.cndS (by simp only [go_sem, hs, hg, hx, hsx, htn] <;> rfl) (fun hb45 => ?_) (fun hb45 => ?_)
            · skip
              have hXn : atS w k (ofN w house k) (ofN w house k).length = atS w k (ofN w house k) ((ofN w house k).length - (j + 1)) := by rw [Xj, hLj, atS, if_pos (by rw [hget]; simpa using hb45)]
              have hz : ((ofN w house k).length : Int) - (j : Int) - 1 = ((ofN w house k).length : Int) - ((j + 1 : Nat) : Int) := by omega
              refine Exec.skipS ?_
              refine Exec.blk1 ?_
              refine Exec.reg1 ?_
              refine Run.op (by simp only [go_sem, hs, hg, hx, hsx, htn] <;> rfl) (by simp only [go_sem] <;> rfl) ?_
              refine Run.op (by simp only [go_sem, hs, hg, hx, hsx, htn]; (try simp (disch := omega) only [IntWalk.i64_in, IntWalk.u64_in, if_neg, if_pos])<;> rfl) (by simp only [go_sem] <;> rfl) ?_
              refine Run.op (by simp only [go_sem, hs, hg, hx, hsx, htn] <;> rfl) (by simp only [go_sem] <;> rfl) ?_
              refine Run.nil ?_
              refine Blk1K.nrm ?_
              refine ForK.nxt ?_ ?_ ?_
              · omega
              · exact Ghost.kp [1, 2, 5, 6, 7] [2] (by simp only [go_sem, hs, hg, hx, hsx, htn]; first | ((repeat' (first | with_reducible_and_instances rfl | refine st_eq ?_ ?_ ?_ | refine ret_eq ?_ | refine tup_eq ?_ | refine tm_eq ?_ ?_ | refine arr_eq ?_ | refine cells_eq ?_ | refine val_eq ?_ | refine ls_eq ?_ ?_ | refine own_eq ?_ ?_ | refine sl_eq ?_ | refine b_eq ?_ | (refine i_eq ?_; omega))); done) | rfl)
              · exact hXn
            · skip
              have hat : ((ofN w house k).length : Int) - (j : Int) = ((atS w k (ofN w house k) (ofN w house k).length : Nat) : Int) := by rw [Xj, hLj, atS, if_neg (by rw [hget]; simpa using hb45)]; omega
              have hal := atS_le w k (ofN w house k) (ofN w house k).length
              refine Exec.exitS ?_
              refine ForK.ext ?_
              refine BlkK.hit ?_
              rw [hat]
              refine Exec.opk1 15 ?_
              refine OpenK.op (by simp only [go_sem, hs, hg, hx, hsx, htn] <;> rfl) (by simp only [go_sem] <;> rfl) (by simp only [go_sem] <;> rfl) ?_
              refine OpenK.op (by simp only [go_sem, hs, hg, hx, hsx, htn] <;> rfl) (by simp only [go_sem] <;> rfl) (by simp only [go_sem] <;> rfl) ?_
              refine OpenK.op (by simp only [go_sem, hs, hg, hx, hsx, htn] <;> rfl) (by simp only [go_sem] <;> rfl) (by simp only [go_sem] <;> rfl) ?_
              refine OpenK.op (by simp only [go_sem, hs, hg, hx, hsx, htn]; (try simp (disch := omega) only [if_pos]); (try simp only [go_sem, hs, hg, hx, hsx, htn])<;> rfl) (by simp only [go_sem] <;> rfl) (by simp only [go_sem] <;> rfl) ?_
              refine OpenK.op (by simp only [go_sem, hs, hg, hx, hsx, htn]; (try simp (disch := omega) only [if_pos]); (try simp only [go_sem, hs, hg, hx, hsx, htn]) <;> first | (refine ite_run ⟨by (try simp only [List.length_append, List.length_drop, List.length_take, List.length_map, List.length_cons, List.length_nil, List.length_replicate, List.length_set, List.length_range, Nat.zero_add]); omega, by (try simp only [List.length_append, List.length_drop, List.length_take, List.length_map, List.length_cons, List.length_nil, List.length_replicate, List.length_set, List.length_range, Nat.zero_add]); omega, by repeat (first | exact al_nil | assumption | refine al_app ?_ ?_ | refine al_drop ?_ | refine al_take ?_ | exact al_map (fun _ => rfl) | exact al_rep rfl | refine al_cons rfl ?_)⟩ ?_; simp only [go_sem, hs, hg, hx, hsx, htn] <;> rfl) | (refine ite_run ⟨by (try simp only [List.length_append, List.length_drop, List.length_take, List.length_map, List.length_cons, List.length_nil, List.length_replicate, List.length_set, List.length_range, Nat.zero_add]); omega, by repeat (first | exact al_nil | assumption | refine al_app ?_ ?_ | refine al_drop ?_ | refine al_take ?_ | exact al_map (fun _ => rfl) | exact al_rep rfl | refine al_cons rfl ?_)⟩ ?_; simp only [go_sem, hs, hg, hx, hsx, htn] <;> rfl) | rfl) (by simp only [go_sem] <;> rfl) (by simp only [go_sem] <;> rfl) ?_
              refine OpenK.op (by simp only [go_sem, hs, hg, hx, hsx, htn] <;> rfl) (by simp only [go_sem] <;> rfl) (by simp only [go_sem] <;> rfl) ?_
              refine OpenK.op (by simp only [go_sem, hs, hg, hx, hsx, htn] <;> rfl) (by simp only [go_sem] <;> rfl) (by simp only [go_sem] <;> rfl) ?_
              refine OpenK.op (by simp only [go_sem, hs, hg, hx, hsx, htn]; (try simp (disch := omega) only [if_pos]); (try simp only [go_sem, hs, hg, hx, hsx, htn]) <;> first | (refine ite_run ⟨by (try simp only [List.length_append, List.length_drop, List.length_take, List.length_map, List.length_cons, List.length_nil, List.length_replicate, List.length_set, List.length_range, Nat.zero_add]); omega, by (try simp only [List.length_append, List.length_drop, List.length_take, List.length_map, List.length_cons, List.length_nil, List.length_replicate, List.length_set, List.length_range, Nat.zero_add]); omega, by repeat (first | exact al_nil | assumption | refine al_app ?_ ?_ | refine al_drop ?_ | refine al_take ?_ | exact al_map (fun _ => rfl) | exact al_rep rfl | refine al_cons rfl ?_)⟩ ?_; simp only [go_sem, hs, hg, hx, hsx, htn] <;> rfl) | (refine ite_run ⟨by (try simp only [List.length_append, List.length_drop, List.length_take, List.length_map, List.length_cons, List.length_nil, List.length_replicate, List.length_set, List.length_range, Nat.zero_add]); omega, by repeat (first | exact al_nil | assumption | refine al_app ?_ ?_ | refine al_drop ?_ | refine al_take ?_ | exact al_map (fun _ => rfl) | exact al_rep rfl | refine al_cons rfl ?_)⟩ ?_; simp only [go_sem, hs, hg, hx, hsx, htn] <;> rfl) | rfl) (by simp only [go_sem] <;> rfl) (by simp only [go_sem] <;> rfl) ?_
              refine OpenK.op (by simp only [go_sem, hs, hg, hx, hsx, htn] <;> rfl) (by simp only [go_sem] <;> rfl) (by simp only [go_sem] <;> rfl) ?_
              refine OpenK.op (by simp only [go_sem, hs, hg, hx, hsx, htn] <;> rfl) (by simp only [go_sem] <;> rfl) (by simp only [go_sem] <;> rfl) ?_
              refine OpenK.op (by simp only [go_sem, hs, hg, hx, hsx, htn]; (try simp (disch := omega) only [if_pos]); (try simp only [go_sem, hs, hg, hx, hsx, htn])<;> rfl) (by simp only [go_sem] <;> rfl) (by simp only [go_sem] <;> rfl) ?_
              refine OpenK.op (by simp only [go_sem, hs, hg, hx, hsx, htn]; (try simp (disch := omega) only [if_pos]); (try simp only [go_sem, hs, hg, hx, hsx, htn]) <;> first | (refine ite_run ⟨by (try simp only [List.length_append, List.length_drop, List.length_take, List.length_map, List.length_cons, List.length_nil, List.length_replicate, List.length_set, List.length_range, Nat.zero_add]); omega, by (try simp only [List.length_append, List.length_drop, List.length_take, List.length_map, List.length_cons, List.length_nil, List.length_replicate, List.length_set, List.length_range, Nat.zero_add]); omega, by repeat (first | exact al_nil | assumption | refine al_app ?_ ?_ | refine al_drop ?_ | refine al_take ?_ | exact al_map (fun _ => rfl) | exact al_rep rfl | refine al_cons rfl ?_)⟩ ?_; simp only [go_sem, hs, hg, hx, hsx, htn] <;> rfl) | (refine ite_run ⟨by (try simp only [List.length_append, List.length_drop, List.length_take, List.length_map, List.length_cons, List.length_nil, List.length_replicate, List.length_set, List.length_range, Nat.zero_add]); omega, by repeat (first | exact al_nil | assumption | refine al_app ?_ ?_ | refine al_drop ?_ | refine al_take ?_ | exact al_map (fun _ => rfl) | exact al_rep rfl | refine al_cons rfl ?_)⟩ ?_; simp only [go_sem, hs, hg, hx, hsx, htn] <;> rfl) | rfl) (by simp only [go_sem] <;> rfl) (by simp only [go_sem] <;> rfl) ?_
              refine OpenK.op (by simp only [go_sem, hs, hg, hx, hsx, htn] <;> rfl) (by simp only [go_sem] <;> rfl) (by simp only [go_sem] <;> rfl) ?_
              refine OpenK.nil (OpenE.gho (by decide +kernel) (by decide +kernel) (Ghost.frzA 48) (by simp only [go_sem] <;> rfl) ?_)
              refine BlkK.nrm ?_
              refine Exec.reg1 ?_
              refine Run.op (by simp only [go_sem, hs, hg, hx, hsx, htn] <;> rfl) (by simp only [go_sem] <;> rfl) ?_
              refine Run.op (by simp only [go_sem, hs, hg, hx, hsx, htn]; (try simp (disch := omega) only [IntWalk.i64_in, IntWalk.u64_in, if_neg, if_pos])<;> rfl) (by simp only [go_sem] <;> rfl) ?_
              refine Run.op (by simp only [go_sem, hs, hg, hx, hsx, htn] <;> rfl) (by simp only [go_sem] <;> rfl) ?_
              refine Run.nil ?_
              refine ForK.nxt ?_ ?_ ?_
              · omega
              · exact Ghost.kp [1, 2, 5, 6] [2] (by simp only [go_sem, hs, hg, hx, hsx, htn]; first | ((repeat' (first | with_reducible_and_instances rfl | refine st_eq ?_ ?_ ?_ | refine ret_eq ?_ | refine tup_eq ?_ | refine tm_eq ?_ ?_ | refine arr_eq ?_ | refine cells_eq ?_ | refine val_eq ?_ | refine ls_eq ?_ ?_ | refine own_eq ?_ ?_ | refine sl_eq ?_ | refine b_eq ?_ | (refine i_eq ?_; omega))); (rw [ofN, if_pos hh, insS, List.take_of_length_le (by simp [List.length_take, List.length_drop]; omega)]; simp [List.map_take, List.map_drop, encNat])) | rfl)
              · trivial
          · skip
            have hg : decide (((ofN w house k).length : Int) - (j : Int) > 0) = false := by simp; omega
            refine Exec.opk 23 ?_
            refine OpenK.op (by simp only [go_sem, hs, hg] <;> rfl) (by simp only [go_sem] <;> rfl) (by simp only [go_sem] <;> rfl) ?_
            refine OpenK.op (by simp only [go_sem, hs, hg] <;> rfl) (by simp only [go_sem] <;> rfl) (by simp only [go_sem] <;> rfl) ?_
            refine OpenK.op (by simp only [go_sem, hs, hg] <;> rfl) (by simp only [go_sem] <;> rfl) (by simp only [go_sem] <;> rfl) ?_
            refine OpenK.skp (by simp only [go_sem] <;> rfl) (by simp only [go_sem] <;> rfl) (by simp only [go_sem] <;> rfl) ?_
            refine OpenK.skp (by simp only [go_sem] <;> rfl) (by simp only [go_sem] <;> rfl) (by simp only [go_sem] <;> rfl) ?_
            refine OpenK.skp (by simp only [go_sem] <;> rfl) (by simp only [go_sem] <;> rfl) (by simp only [go_sem] <;> rfl) ?_
            refine OpenK.skp (by simp only [go_sem] <;> rfl) (by simp only [go_sem] <;> rfl) (by simp only [go_sem] <;> rfl) ?_
            refine OpenK.skp (by simp only [go_sem] <;> rfl) (by simp only [go_sem] <;> rfl) (by simp only [go_sem] <;> rfl) ?_
            refine OpenK.skp (by simp only [go_sem] <;> rfl) (by simp only [go_sem] <;> rfl) (by simp only [go_sem] <;> rfl) ?_
            refine OpenK.skp (by simp only [go_sem] <;> rfl) (by simp only [go_sem] <;> rfl) (by simp only [go_sem] <;> rfl) ?_
            refine OpenK.skp (by simp only [go_sem] <;> rfl) (by simp only [go_sem] <;> rfl) (by simp only [go_sem] <;> rfl) ?_
            refine OpenK.skp (by simp only [go_sem] <;> rfl) (by simp only [go_sem] <;> rfl) (by simp only [go_sem] <;> rfl) ?_
            refine OpenK.skp (by simp only [go_sem] <;> rfl) (by simp only [go_sem] <;> rfl) (by simp only [go_sem] <;> rfl) ?_
            refine OpenK.skp (by simp only [go_sem] <;> rfl) (by simp only [go_sem] <;> rfl) (by simp only [go_sem] <;> rfl) ?_
            refine OpenK.skp (by simp only [go_sem] <;> rfl) (by simp only [go_sem] <;> rfl) (by simp only [go_sem] <;> rfl) ?_
            refine OpenK.skp (by simp only [go_sem] <;> rfl) (by simp only [go_sem] <;> rfl) (by simp only [go_sem] <;> rfl) ?_
            refine OpenK.skp (by simp only [go_sem] <;> rfl) (by simp only [go_sem] <;> rfl) (by simp only [go_sem] <;> rfl) ?_
            refine OpenK.skp (by simp only [go_sem] <;> rfl) (by simp only [go_sem] <;> rfl) (by simp only [go_sem] <;> rfl) ?_
            refine OpenK.skp (by simp only [go_sem] <;> rfl) (by simp only [go_sem] <;> rfl) (by simp only [go_sem] <;> rfl) ?_
            refine OpenK.skp (by simp only [go_sem] <;> rfl) (by simp only [go_sem] <;> rfl) (by simp only [go_sem] <;> rfl) ?_
            refine OpenK.op (by simp only [go_sem, hs, hg] <;> rfl) (by simp only [go_sem] <;> rfl) (by simp only [go_sem] <;> rfl) ?_
            refine OpenK.nil (OpenE.finT (by kernel_rfl) (by kernel_rfl) (by kernel_rfl) ?_)
            refine Exec.cndS (by simp only [go_sem, hs, hg] <;> rfl) (fun hb45 => ?_) (fun hb45 => ?_)
            · exact absurd hb45 (by simp)
            · skip
              have hat : ((ofN w house k).length : Int) - (j : Int) = ((atS w k (ofN w house k) (ofN w house k).length : Nat) : Int) := by rw [Xj, show (ofN w house k).length - j = 0 by omega, atS]; omega
              have hal := atS_le w k (ofN w house k) (ofN w house k).length
              refine Exec.exitS ?_
              refine ForK.ext ?_
              refine BlkK.hit ?_
              rw [hat]
              refine Exec.opk1 15 ?_
              refine OpenK.op (by simp only [go_sem, hs, hg] <;> rfl) (by simp only [go_sem] <;> rfl) (by simp only [go_sem] <;> rfl) ?_
              refine OpenK.op (by simp only [go_sem, hs, hg] <;> rfl) (by simp only [go_sem] <;> rfl) (by simp only [go_sem] <;> rfl) ?_
              refine OpenK.op (by simp only [go_sem, hs, hg] <;> rfl) (by simp only [go_sem] <;> rfl) (by simp only [go_sem] <;> rfl) ?_
              refine OpenK.op (by simp only [go_sem, hs, hg]; (try simp (disch := omega) only [if_pos]); (try simp only [go_sem, hs, hg])<;> rfl) (by simp only [go_sem] <;> rfl) (by simp only [go_sem] <;> rfl) ?_
              refine OpenK.op (by simp only [go_sem, hs, hg]; (try simp (disch := omega) only [if_pos]); (try simp only [go_sem, hs, hg]) <;> first | (refine ite_run ⟨by (try simp only [List.length_append, List.length_drop, List.length_take, List.length_map, List.length_cons, List.length_nil, List.length_replicate, List.length_set, List.length_range, Nat.zero_add]); omega, by (try simp only [List.length_append, List.length_drop, List.length_take, List.length_map, List.length_cons, List.length_nil, List.length_replicate, List.length_set, List.length_range, Nat.zero_add]); omega, by repeat (first | exact al_nil | assumption | refine al_app ?_ ?_ | refine al_drop ?_ | refine al_take ?_ | exact al_map (fun _ => rfl) | exact al_rep rfl | refine al_cons rfl ?_)⟩ ?_; simp only [go_sem, hs, hg] <;> rfl) | (refine ite_run ⟨by (try simp only [List.length_append, List.length_drop, List.length_take, List.length_map, List.length_cons, List.length_nil, List.length_replicate, List.length_set, List.length_range, Nat.zero_add]); omega, by repeat (first | exact al_nil | assumption | refine al_app ?_ ?_ | refine al_drop ?_ | refine al_take ?_ | exact al_map (fun _ => rfl) | exact al_rep rfl | refine al_cons rfl ?_)⟩ ?_; simp only [go_sem, hs, hg] <;> rfl) | rfl) (by simp only [go_sem] <;> rfl) (by simp only [go_sem] <;> rfl) ?_
              refine OpenK.op (by simp only [go_sem, hs, hg] <;> rfl) (by simp only [go_sem] <;> rfl) (by simp only [go_sem] <;> rfl) ?_
              refine OpenK.op (by simp only [go_sem, hs, hg] <;> rfl) (by simp only [go_sem] <;> rfl) (by simp only [go_sem] <;> rfl) ?_
              refine OpenK.op (by simp only [go_sem, hs, hg]; (try simp (disch := omega) only [if_pos]); (try simp only [go_sem, hs, hg]) <;> first | (refine ite_run ⟨by (try simp only [List.length_append, List.length_drop, List.length_take, List.length_map, List.length_cons, List.length_nil, List.length_replicate, List.length_set, List.length_range, Nat.zero_add]); omega, by (try simp only [List.length_append, List.length_drop, List.length_take, List.length_map, List.length_cons, List.length_nil, List.length_replicate, List.length_set, List.length_range, Nat.zero_add]); omega, by repeat (first | exact al_nil | assumption | refine al_app ?_ ?_ | refine al_drop ?_ | refine al_take ?_ | exact al_map (fun _ => rfl) | exact al_rep rfl | refine al_cons rfl ?_)⟩ ?_; simp only [go_sem, hs, hg] <;> rfl) | (refine ite_run ⟨by (try simp only [List.length_append, List.length_drop, List.length_take, List.length_map, List.length_cons, List.length_nil, List.length_replicate, List.length_set, List.length_range, Nat.zero_add]); omega, by repeat (first | exact al_nil | assumption | refine al_app ?_ ?_ | refine al_drop ?_ | refine al_take ?_ | exact al_map (fun _ => rfl) | exact al_rep rfl | refine al_cons rfl ?_)⟩ ?_; simp only [go_sem, hs, hg] <;> rfl) | rfl) (by simp only [go_sem] <;> rfl) (by simp only [go_sem] <;> rfl) ?_
              refine OpenK.op (by simp only [go_sem, hs, hg] <;> rfl) (by simp only [go_sem] <;> rfl) (by simp only [go_sem] <;> rfl) ?_
              refine OpenK.op (by simp only [go_sem, hs, hg] <;> rfl) (by simp only [go_sem] <;> rfl) (by simp only [go_sem] <;> rfl) ?_
              refine OpenK.op (by simp only [go_sem, hs, hg]; (try simp (disch := omega) only [if_pos]); (try simp only [go_sem, hs, hg])<;> rfl) (by simp only [go_sem] <;> rfl) (by simp only [go_sem] <;> rfl) ?_
              refine OpenK.op (by simp only [go_sem, hs, hg]; (try simp (disch := omega) only [if_pos]); (try simp only [go_sem, hs, hg]) <;> first | (refine ite_run ⟨by (try simp only [List.length_append, List.length_drop, List.length_take, List.length_map, List.length_cons, List.length_nil, List.length_replicate, List.length_set, List.length_range, Nat.zero_add]); omega, by (try simp only [List.length_append, List.length_drop, List.length_take, List.length_map, List.length_cons, List.length_nil, List.length_replicate, List.length_set, List.length_range, Nat.zero_add]); omega, by repeat (first | exact al_nil | assumption | refine al_app ?_ ?_ | refine al_drop ?_ | refine al_take ?_ | exact al_map (fun _ => rfl) | exact al_rep rfl | refine al_cons rfl ?_)⟩ ?_; simp only [go_sem, hs, hg] <;> rfl) | (refine ite_run ⟨by (try simp only [List.length_append, List.length_drop, List.length_take, List.length_map, List.length_cons, List.length_nil, List.length_replicate, List.length_set, List.length_range, Nat.zero_add]); omega, by repeat (first | exact al_nil | assumption | refine al_app ?_ ?_ | refine al_drop ?_ | refine al_take ?_ | exact al_map (fun _ => rfl) | exact al_rep rfl | refine al_cons rfl ?_)⟩ ?_; simp only [go_sem, hs, hg] <;> rfl) | rfl) (by simp only [go_sem] <;> rfl) (by simp only [go_sem] <;> rfl) ?_
              refine OpenK.op (by simp only [go_sem, hs, hg] <;> rfl) (by simp only [go_sem] <;> rfl) (by simp only [go_sem] <;> rfl) ?_
              refine OpenK.nil (OpenE.gho (by decide +kernel) (by decide +kernel) (Ghost.frzA 48) (by simp only [go_sem] <;> rfl) ?_)
              refine BlkK.nrm ?_
              refine Exec.reg1 ?_
              refine Run.op (by simp only [go_sem, hs, hg] <;> rfl) (by simp only [go_sem] <;> rfl) ?_
              refine Run.op (by simp only [go_sem, hs, hg]; (try simp (disch := omega) only [IntWalk.i64_in, IntWalk.u64_in, if_neg, if_pos])<;> rfl) (by simp only [go_sem] <;> rfl) ?_
              refine Run.op (by simp only [go_sem, hs, hg] <;> rfl) (by simp only [go_sem] <;> rfl) ?_
              refine Run.nil ?_
              refine ForK.nxt ?_ ?_ ?_
              · omega
              · exact Ghost.kp [1, 2, 5, 6] [2] (by simp only [go_sem, hs, hg]; first | ((repeat' (first | with_reducible_and_instances rfl | refine st_eq ?_ ?_ ?_ | refine ret_eq ?_ | refine tup_eq ?_ | refine tm_eq ?_ ?_ | refine arr_eq ?_ | refine cells_eq ?_ | refine val_eq ?_ | refine ls_eq ?_ ?_ | refine own_eq ?_ ?_ | refine sl_eq ?_ | refine b_eq ?_ | (refine i_eq ?_; omega))); (rw [ofN, if_pos hh, insS, List.take_of_length_le (by simp [List.length_take, List.length_drop]; omega)]; simp [List.map_take, List.map_drop, encNat])) | rfl)
              · trivial
    · skip
      have e : ofN w house k = ofS w house := by rw [ofS]; congr 1; have := ge_of_dec hb12; omega
      refine Exec.exitS ?_
      refine ForK.ext ?_
      refine BlkK.hit ?_
      refine Exec.reg ?_
      iterate 2 (refine Run.op (by simp only [go_sem, e] <;> rfl) (by simp only [go_sem] <;> rfl) ?_)
      refine Run.nil ?_
      exact Ends.fin [] (rs := [.tmp 4]) rfl (by simp only [go_sem, e] <;> rfl) (by simp only [go_sem, e] <;> first | rfl | ((repeat' (first | with_reducible_and_instances rfl | refine st_eq ?_ ?_ ?_ | refine ret_eq ?_ | refine tup_eq ?_ | refine tm_eq ?_ ?_ | refine arr_eq ?_ | refine cells_eq ?_ | refine val_eq ?_ | refine ls_eq ?_ ?_ | refine own_eq ?_ ?_ | refine sl_eq ?_ | refine b_eq ?_ | (refine i_eq ?_; omega))); done))

end Go.Mw
namespace Go.Mw
open Go.Proofs
set_option maxRecDepth 20000 in
/-- meterworks/meterworksref12.bad -/
theorem c_meterworksref12_bad (w : Walk) (house : Nat) (h1 : w.rates.length ≤ 1000) (h2 : w.readings.length ≤ 1000) (hw : walkB w = true) (hh : house < w.rates.length) : Contract Try.prog 35 [walkV w, .int house] (.int (optI (badS w house))) [] := by
  have hol := len_ofS w house
  have hs := rt_get hh
  refine con_of follows_mixed Try.func35 rfl (by simp only [List.length_cons, List.length_nil, Try.ntmps35]; omega) (by kernel_rfl) rfl ?_
  refine Exec.reg ?_
  iterate 2 (refine Run.op (by simp only [go_sem] <;> rfl) (by simp only [go_sem] <;> rfl) ?_)
  refine Run.nil ?_
  refine Exec.reg ?_
  iterate 2 (refine Run.op (by simp only [go_sem] <;> rfl) (by simp only [go_sem] <;> rfl) ?_)
  refine Run.cal (c_meterworksref12_Of w _ h1 h2) (by simp only [go_sem]) (by simp only [go_sem] <;> rfl) (by exact ⟨by first | exact WkR.pure rfl | exact WkR.nil _ | exact WkR.int (by first | omega | (simp; done) | (simp; omega)), by first | exact WkR.pure rfl | exact WkR.nil _ | exact WkR.int (by first | omega | (simp; done) | (simp; omega)), trivial⟩) (fr0) (by simp only [go_sem] <;> rfl) ?_
  refine Run.op (by simp only [go_sem] <;> rfl) (by simp only [go_sem] <;> rfl) ?_
  refine Run.nil ?_
  refine Exec.assocS ?_
  refine Exec.reg ?_
  refine Run.op (by simp only [go_sem] <;> rfl) (by simp only [go_sem] <;> rfl) ?_
  refine Run.nil ?_
  refine Exec.blk ?_
  refine Exec.forA [1, 2, 5, 6] [2] ((ofS w house).length) (fun k => [.slot 6 (.int ((k : Int) + 1))]) (fun k => badS w house = badL w (rt w house) ((ofS w house).drop k)) (fun k => by simp only [go_sem] <;> rfl) (by simp only [go_sem] <;> rfl) ?_ (fun k hk hX => ?_)
  · rfl
  · skip
    refine Exec.assocS ?_
    refine Exec.reg ?_
    iterate 4 (refine Run.op (by simp only [go_sem] <;> rfl) (by simp only [go_sem] <;> rfl) ?_)
    refine Run.nil ?_
    refine Exec.cndS (by simp only [go_sem] <;> rfl) (fun hb13 => ?_) (fun hb13 => ?_)
    · skip
      have hlt : k + 1 < (ofS w house).length := by have := of_decide_eq_true hb13; omega
      obtain ⟨a, ha⟩ : ∃ a, (ofS w house)[k]? = some a := ⟨_, List.getElem?_eq_getElem (by omega)⟩
      obtain ⟨b, hb⟩ : ∃ b, (ofS w house)[k + 1]? = some b := ⟨_, List.getElem?_eq_getElem (by omega)⟩
      have hal := (mem_ofS.1 (List.mem_of_getElem? ha)).1
      have hbl := (mem_ofS.1 (List.mem_of_getElem? hb)).1
      have hsa := rd_get hal
      have hsb := rd_get hbl
      have t1 : ((k : Int) + 1 - 1).toNat = k := by omega
      have t2 : ((k : Int) + 1).toNat = k + 1 := by omega
      refine Exec.skipS ?_
      refine Exec.blk ?_
      refine Exec.opk 26 ?_
      refine OpenK.op (by simp only [go_sem, hs, ha, hb, hsa, hsb, t1, t2] <;> rfl) (by simp only [go_sem] <;> rfl) (by simp only [go_sem] <;> rfl) ?_
      refine OpenK.op (by simp only [go_sem, hs, ha, hb, hsa, hsb, t1, t2] <;> rfl) (by simp only [go_sem] <;> rfl) (by simp only [go_sem] <;> rfl) ?_
      refine OpenK.op (by simp only [go_sem, hs, ha, hb, hsa, hsb, t1, t2] <;> rfl) (by simp only [go_sem] <;> rfl) (by simp only [go_sem] <;> rfl) ?_
      refine OpenK.op (by simp only [go_sem, hs, ha, hb, hsa, hsb, t1, t2]; (try simp (disch := omega) only [if_pos]); (try simp only [go_sem, hs, ha, hb, hsa, hsb, t1, t2])<;> rfl) (by simp only [go_sem] <;> rfl) (by simp only [go_sem] <;> rfl) ?_
      refine OpenK.op (by simp only [go_sem, hs, ha, hb, hsa, hsb, t1, t2] <;> rfl) (by simp only [go_sem] <;> rfl) (by simp only [go_sem] <;> rfl) ?_
      refine OpenK.op (by simp only [go_sem, hs, ha, hb, hsa, hsb, t1, t2] <;> rfl) (by simp only [go_sem] <;> rfl) (by simp only [go_sem] <;> rfl) ?_
      refine OpenK.op (by simp only [go_sem, hs, ha, hb, hsa, hsb, t1, t2] <;> rfl) (by simp only [go_sem] <;> rfl) (by simp only [go_sem] <;> rfl) ?_
      refine OpenK.op (by simp only [go_sem, hs, ha, hb, hsa, hsb, t1, t2] <;> rfl) (by simp only [go_sem] <;> rfl) (by simp only [go_sem] <;> rfl) ?_
      refine OpenK.op (by simp only [go_sem, hs, ha, hb, hsa, hsb, t1, t2] <;> rfl) (by simp only [go_sem] <;> rfl) (by simp only [go_sem] <;> rfl) ?_
      refine OpenK.op (by simp only [go_sem, hs, ha, hb, hsa, hsb, t1, t2]; (try simp (disch := omega) only [IntWalk.i64_in, IntWalk.u64_in, if_neg, if_pos])<;> rfl) (by simp only [go_sem] <;> rfl) (by simp only [go_sem] <;> rfl) ?_
      refine OpenK.op (by simp only [go_sem, hs, ha, hb, hsa, hsb, t1, t2]; (try simp (disch := omega) only [if_pos]); (try simp only [go_sem, hs, ha, hb, hsa, hsb, t1, t2])<;> rfl) (by simp only [go_sem] <;> rfl) (by simp only [go_sem] <;> rfl) ?_
      refine OpenK.op (by simp only [go_sem, hs, ha, hb, hsa, hsb, t1, t2] <;> rfl) (by simp only [go_sem] <;> rfl) (by simp only [go_sem] <;> rfl) ?_
      refine OpenK.op (by simp only [go_sem, hs, ha, hb, hsa, hsb, t1, t2]; (try simp (disch := omega) only [if_pos]); (try simp only [go_sem, hs, ha, hb, hsa, hsb, t1, t2])<;> rfl) (by simp only [go_sem] <;> rfl) (by simp only [go_sem] <;> rfl) ?_
      refine OpenK.op (by simp only [go_sem, hs, ha, hb, hsa, hsb, t1, t2] <;> rfl) (by simp only [go_sem] <;> rfl) (by simp only [go_sem] <;> rfl) ?_
      refine OpenK.op (by simp only [go_sem, hs, ha, hb, hsa, hsb, t1, t2] <;> rfl) (by simp only [go_sem] <;> rfl) (by simp only [go_sem] <;> rfl) ?_
      refine OpenK.op (by simp only [go_sem, hs, ha, hb, hsa, hsb, t1, t2] <;> rfl) (by simp only [go_sem] <;> rfl) (by simp only [go_sem] <;> rfl) ?_
      refine OpenK.op (by simp only [go_sem, hs, ha, hb, hsa, hsb, t1, t2] <;> rfl) (by simp only [go_sem] <;> rfl) (by simp only [go_sem] <;> rfl) ?_
      refine OpenK.op (by simp only [go_sem, hs, ha, hb, hsa, hsb, t1, t2] <;> rfl) (by simp only [go_sem] <;> rfl) (by simp only [go_sem] <;> rfl) ?_
      refine OpenK.op (by simp only [go_sem, hs, ha, hb, hsa, hsb, t1, t2]; (try simp (disch := omega) only [if_pos]); (try simp only [go_sem, hs, ha, hb, hsa, hsb, t1, t2])<;> rfl) (by simp only [go_sem] <;> rfl) (by simp only [go_sem] <;> rfl) ?_
      refine OpenK.op (by simp only [go_sem, hs, ha, hb, hsa, hsb, t1, t2] <;> rfl) (by simp only [go_sem] <;> rfl) (by simp only [go_sem] <;> rfl) ?_
      refine OpenK.op (by simp only [go_sem, hs, ha, hb, hsa, hsb, t1, t2]; (try simp (disch := omega) only [if_pos]); (try simp only [go_sem, hs, ha, hb, hsa, hsb, t1, t2])<;> rfl) (by simp only [go_sem] <;> rfl) (by simp only [go_sem] <;> rfl) ?_
      refine OpenK.op (by simp only [go_sem, hs, ha, hb, hsa, hsb, t1, t2] <;> rfl) (by simp only [go_sem] <;> rfl) (by simp only [go_sem] <;> rfl) ?_
      refine OpenK.cal (c_meterworksref12_two (rt w house) (rd w a) (rd w b) (rate_ok hw hh) (by have := read_ok hw hal; omega) (by have := read_ok hw hbl; omega)) (by simp only [go_sem]) (by simp only [go_sem, hs, ha, hb, hsa, hsb, t1, t2] <;> rfl) (by exact ⟨by first | exact WkR.pure rfl | exact WkR.nil _ | exact WkR.int (by first | omega | (simp; done) | (simp; omega)), by first | exact WkR.pure rfl | exact WkR.nil _ | exact WkR.int (by first | omega | (simp; done) | (simp; omega)), by first | exact WkR.pure rfl | exact WkR.nil _ | exact WkR.int (by first | omega | (simp; done) | (simp; omega)), trivial⟩) (fr0) (by simp only [go_sem, hs, ha, hb, hsa, hsb, t1, t2] <;> rfl) (by simp only [go_sem] <;> rfl) (by simp only [go_sem] <;> rfl) ?_
      refine OpenK.op (by simp only [go_sem, hs, ha, hb, hsa, hsb, t1, t2] <;> rfl) (by simp only [go_sem] <;> rfl) (by simp only [go_sem] <;> rfl) ?_
      refine OpenK.nil (OpenE.finT (by kernel_rfl) (by kernel_rfl) (by kernel_rfl) ?_)
      refine Exec.cnd (by simp only [go_sem, hs, ha, hb, hsa, hsb, t1, t2] <;> rfl) (fun hb39 => ?_) (fun hb39 => ?_)
      · skip
        have hr : optI (badS w house) = (b : Int) := by rw [hX, badL_at ha hb, if_neg (by simpa using hb39)]; rfl
        refine Exec.reg ?_
        iterate 2 (refine Run.op (by simp only [go_sem, hs, ha, hb, hsa, hsb, t1, t2, hr] <;> rfl) (by simp only [go_sem] <;> rfl) ?_)
        refine Run.op (by simp only [go_sem, hs, ha, hb, hsa, hsb, t1, t2, hr]; (try simp (disch := omega) only [if_pos]); (try simp only [go_sem, hs, ha, hb, hsa, hsb, t1, t2, hr])<;> rfl) (by simp only [go_sem] <;> rfl) ?_
        iterate 2 (refine Run.op (by simp only [go_sem, hs, ha, hb, hsa, hsb, t1, t2, hr] <;> rfl) (by simp only [go_sem] <;> rfl) ?_)
        refine Run.nil ?_
        refine BlkK.ret ?_
        refine ForK.ret ?_
        refine BlkK.ret ?_
        exact Ends.fin [] (rs := [.tmp 4]) rfl (by simp only [go_sem, hs, ha, hb, hsa, hsb, t1, t2, hr] <;> rfl) (by simp only [go_sem, hs, ha, hb, hsa, hsb, t1, t2, hr] <;> first | rfl | ((repeat' (first | with_reducible_and_instances rfl | refine st_eq ?_ ?_ ?_ | refine ret_eq ?_ | refine tup_eq ?_ | refine tm_eq ?_ ?_ | refine arr_eq ?_ | refine cells_eq ?_ | refine val_eq ?_ | refine ls_eq ?_ ?_ | refine own_eq ?_ ?_ | refine sl_eq ?_ | refine b_eq ?_ | (refine i_eq ?_; omega))); done))
      · skip
        refine BlkK.nrm ?_
        refine Exec.reg1 ?_
        refine Run.op (by simp only [go_sem, hs, ha, hb, hsa, hsb, t1, t2] <;> rfl) (by simp only [go_sem] <;> rfl) ?_
        refine Run.op (by simp only [go_sem, hs, ha, hb, hsa, hsb, t1, t2]; (try simp (disch := omega) only [IntWalk.i64_in, IntWalk.u64_in, if_neg, if_pos])<;> rfl) (by simp only [go_sem] <;> rfl) ?_
        refine Run.op (by simp only [go_sem, hs, ha, hb, hsa, hsb, t1, t2] <;> rfl) (by simp only [go_sem] <;> rfl) ?_
        refine Run.nil ?_
        refine ForK.nxt ?_ ?_ ?_
        · omega
        · exact Ghost.kp [1, 2, 5, 6] [2] (by simp only [go_sem, hs, ha, hb, hsa, hsb, t1, t2]; first | ((repeat' (first | with_reducible_and_instances rfl | refine st_eq ?_ ?_ ?_ | refine ret_eq ?_ | refine tup_eq ?_ | refine tm_eq ?_ ?_ | refine arr_eq ?_ | refine cells_eq ?_ | refine val_eq ?_ | refine ls_eq ?_ ?_ | refine own_eq ?_ ?_ | refine sl_eq ?_ | refine b_eq ?_ | (refine i_eq ?_; omega))); done) | rfl)
        · rw [hX, badL_at ha hb, if_pos (by simpa using hb39)]
    · skip
      have hr : optI (badS w house) = -1 := by rw [hX, badL_end (by have := of_decide_eq_false hb13; omega)]; rfl
      refine Exec.exitS ?_
      refine ForK.ext ?_
      refine BlkK.hit ?_
      refine Exec.reg ?_
      refine Run.op (by simp only [go_sem, hr] <;> rfl) (by simp only [go_sem] <;> rfl) ?_
      refine Run.nil ?_
      exact Ends.fin [] (rs := [.tmp 4]) rfl (by simp only [go_sem, hr] <;> rfl) (by simp only [go_sem, hr] <;> first | rfl | ((repeat' (first | with_reducible_and_instances rfl | refine st_eq ?_ ?_ ?_ | refine ret_eq ?_ | refine tup_eq ?_ | refine tm_eq ?_ ?_ | refine arr_eq ?_ | refine cells_eq ?_ | refine val_eq ?_ | refine ls_eq ?_ ?_ | refine own_eq ?_ ?_ | refine sl_eq ?_ | refine b_eq ?_ | (refine i_eq ?_; omega))); done))

set_option maxRecDepth 20000 in
/-- meterworks/meterworksref12.Fits -/
theorem c_meterworksref12_Fits (w : Walk) (h1 : w.rates.length ≤ 1000) (h2 : w.readings.length ≤ 1000) (hw : walkB w = true) : Contract Try.prog 44 [walkV w] (.bool (fitsS w)) [] := by
  refine con_of follows_mixed Try.func44 rfl (by simp only [List.length_cons, List.length_nil, Try.ntmps44]; omega) (by kernel_rfl) rfl ?_
  refine Exec.reg ?_
  iterate 2 (refine Run.op (by simp only [go_sem] <;> rfl) (by simp only [go_sem] <;> rfl) ?_)
  refine Run.nil ?_
  refine Exec.assocS ?_
  refine Exec.reg ?_
  refine Run.op (by simp only [go_sem] <;> rfl) (by simp only [go_sem] <;> rfl) ?_
  refine Run.nil ?_
  refine Exec.blk ?_
  refine Exec.forA [1, 3] [1] (w.rates.length) (fun k => [.slot 3 (.int k)]) (fun k => ∀ j, j < k → badS w j = none) (fun k => by simp only [go_sem] <;> rfl) (by simp only [go_sem] <;> rfl) ?_ (fun k hk hX => ?_)
  · exact fun j hj => absurd hj (by omega)
  · skip
    refine Exec.assocS ?_
    refine Exec.reg ?_
    iterate 5 (refine Run.op (by simp only [go_sem] <;> rfl) (by simp only [go_sem] <;> rfl) ?_)
    refine Run.nil ?_
    refine Exec.cndS (by simp only [go_sem] <;> rfl) (fun hb8 => ?_) (fun hb8 => ?_)
    · skip
      have hlt := lt_of_dec hb8
      refine Exec.skipS ?_
      refine Exec.blk ?_
      refine Exec.reg ?_
      iterate 2 (refine Run.op (by simp only [go_sem] <;> rfl) (by simp only [go_sem] <;> rfl) ?_)
      refine Run.cal (c_meterworksref12_bad w k h1 h2 hw hlt) (by simp only [go_sem]) (by simp only [go_sem] <;> rfl) (by exact ⟨by first | exact WkR.pure rfl | exact WkR.nil _ | exact WkR.int (by first | omega | (simp; done) | (simp; omega)), by first | exact WkR.pure rfl | exact WkR.nil _ | exact WkR.int (by first | omega | (simp; done) | (simp; omega)), trivial⟩) (fr0) (by simp only [go_sem] <;> rfl) ?_
      refine Run.op (by simp only [go_sem] <;> rfl) (by simp only [go_sem] <;> rfl) ?_
      refine Run.nil ?_
      refine Exec.cnd (by simp only [go_sem] <;> rfl) (fun hb14 => ?_) (fun hb14 => ?_)
      · skip
        have hr := fits_no hlt (by rw [optI_ge] at hb14; exact hb14)
        refine Exec.reg ?_
        refine Run.op (by simp only [go_sem, hr] <;> rfl) (by simp only [go_sem] <;> rfl) ?_
        refine Run.nil ?_
        refine BlkK.ret ?_
        refine ForK.ret ?_
        refine BlkK.ret ?_
        exact Ends.fin [] (rs := [.tmp 2]) rfl (by simp only [go_sem, hr] <;> rfl) (by simp only [go_sem, hr] <;> first | rfl | ((repeat' (first | with_reducible_and_instances rfl | refine st_eq ?_ ?_ ?_ | refine ret_eq ?_ | refine tup_eq ?_ | refine tm_eq ?_ ?_ | refine arr_eq ?_ | refine cells_eq ?_ | refine val_eq ?_ | refine ls_eq ?_ ?_ | refine own_eq ?_ ?_ | refine sl_eq ?_ | refine b_eq ?_ | (refine i_eq ?_; omega))); done))
      · skip
        refine BlkK.nrm ?_
        refine Exec.reg1 ?_
        refine Run.op (by simp only [go_sem] <;> rfl) (by simp only [go_sem] <;> rfl) ?_
        refine Run.op (by simp only [go_sem]; (try simp (disch := omega) only [IntWalk.i64_in, IntWalk.u64_in, if_neg, if_pos])<;> rfl) (by simp only [go_sem] <;> rfl) ?_
        refine Run.op (by simp only [go_sem] <;> rfl) (by simp only [go_sem] <;> rfl) ?_
        refine Run.nil ?_
        refine ForK.nxt ?_ ?_ ?_
        · omega
        · exact Ghost.kp [1, 3] [1] (by simp only [go_sem]; first | ((repeat' (first | with_reducible_and_instances rfl | refine st_eq ?_ ?_ ?_ | refine ret_eq ?_ | refine tup_eq ?_ | refine tm_eq ?_ ?_ | refine arr_eq ?_ | refine cells_eq ?_ | refine val_eq ?_ | refine ls_eq ?_ ?_ | refine own_eq ?_ ?_ | refine sl_eq ?_ | refine b_eq ?_ | (refine i_eq ?_; omega))); done) | rfl)
        · exact fun j hj => if e : j = k then e ▸ (by rw [optI_ge] at hb14; simpa using hb14) else hX j (by omega)
    · skip
      have hr := fits_yes (w := w) (fun j hj => hX j (by have := ge_of_dec hb8; omega))
      refine Exec.exitS ?_
      refine ForK.ext ?_
      refine BlkK.hit ?_
      refine Exec.reg ?_
      refine Run.op (by simp only [go_sem, hr] <;> rfl) (by simp only [go_sem] <;> rfl) ?_
      refine Run.nil ?_
      exact Ends.fin [] (rs := [.tmp 2]) rfl (by simp only [go_sem, hr] <;> rfl) (by simp only [go_sem, hr] <;> first | rfl | ((repeat' (first | with_reducible_and_instances rfl | refine st_eq ?_ ?_ ?_ | refine ret_eq ?_ | refine tup_eq ?_ | refine tm_eq ?_ ?_ | refine arr_eq ?_ | refine cells_eq ?_ | refine val_eq ?_ | refine ls_eq ?_ ?_ | refine own_eq ?_ ?_ | refine sl_eq ?_ | refine b_eq ?_ | (refine i_eq ?_; omega))); done))

set_option maxRecDepth 20000 in
/-- meterworks/meterworksref12.Misfit -/
theorem c_meterworksref12_Misfit (w : Walk) (h1 : w.rates.length ≤ 1000) (h2 : w.readings.length ≤ 1000) : Contract Try.prog 15 [walkV w] (tupI [(misfitR w).1, (misfitR w).2.1, (misfitR w).2.2]) [] := by
  refine con_of follows_mixed Try.func15 rfl (by simp only [List.length_cons, List.length_nil, Try.ntmps15]; omega) (by kernel_rfl) rfl ?_
  refine Exec.reg ?_
  iterate 4 (refine Run.op (by simp only [go_sem] <;> rfl) (by simp only [go_sem] <;> rfl) ?_)
  refine Run.nil ?_
  refine Exec.assocS ?_
  refine Exec.reg ?_
  refine Run.op (by simp only [go_sem] <;> rfl) (by simp only [go_sem] <;> rfl) ?_
  refine Run.cal (c_meterworksref12_Walk w h1 h2) (by simp only [go_sem]) (by simp only [go_sem] <;> rfl) (by exact ⟨by first | exact WkR.pure rfl | exact WkR.nil _ | exact WkR.int (by first | omega | (simp; done) | (simp; omega)), trivial⟩) (fr0) (by simp only [go_sem] <;> rfl) ?_
  refine Run.op (by simp only [go_sem] <;> rfl) (by simp only [go_sem] <;> rfl) ?_
  refine Run.nil ?_
  refine Exec.cndS (by simp only [go_sem] <;> rfl) (fun hb9 => ?_) (fun hb9 => ?_)
  · skip
    have hw : walkB w = false := by simpa using hb9
    have hr : misfitR w = (0, 0, 1) := by rw [misfitR, if_neg (by simp [hw])]
    refine Exec.assocS ?_
    refine Exec.reg ?_
    iterate 3 (refine Run.op (by simp only [go_sem, hr] <;> rfl) (by simp only [go_sem] <;> rfl) ?_)
    refine Run.nil ?_
    refine Exec.retS ?_
    exact Ends.fin [] (rs := [.tmp 2, .tmp 3, .tmp 4]) rfl (by simp only [go_sem, hr] <;> rfl) (by simp only [go_sem, hr] <;> first | rfl | ((repeat' (first | with_reducible_and_instances rfl | refine st_eq ?_ ?_ ?_ | refine ret_eq ?_ | refine tup_eq ?_ | refine tm_eq ?_ ?_ | refine arr_eq ?_ | refine cells_eq ?_ | refine val_eq ?_ | refine ls_eq ?_ ?_ | refine own_eq ?_ ?_ | refine sl_eq ?_ | refine b_eq ?_ | (refine i_eq ?_; omega))); done))
  · skip
    have hw : walkB w = true := by simpa using hb9
    refine Exec.skipS ?_
    refine Exec.assocS ?_
    refine Exec.reg ?_
    refine Run.op (by simp only [go_sem] <;> rfl) (by simp only [go_sem] <;> rfl) ?_
    refine Run.nil ?_
    refine Exec.blk ?_
    refine Exec.forA [1, 5] [1] (w.rates.length) (fun k => [.slot 5 (.int k)]) (fun k => ∀ j, j < k → badS w j = none) (fun k => by simp only [go_sem] <;> rfl) (by simp only [go_sem] <;> rfl) ?_ (fun k hk hX => ?_)
    · exact fun j hj => absurd hj (by omega)
    · skip
      refine Exec.assocS ?_
      refine Exec.reg ?_
      iterate 5 (refine Run.op (by simp only [go_sem] <;> rfl) (by simp only [go_sem] <;> rfl) ?_)
      refine Run.nil ?_
      refine Exec.cndS (by simp only [go_sem] <;> rfl) (fun hb14 => ?_) (fun hb14 => ?_)
      · skip
        have hlt := lt_of_dec hb14
        refine Exec.skipS ?_
        refine Exec.blk ?_
        refine Exec.reg ?_
        iterate 2 (refine Run.op (by simp only [go_sem] <;> rfl) (by simp only [go_sem] <;> rfl) ?_)
        refine Run.cal (c_meterworksref12_bad w k h1 h2 hw hlt) (by simp only [go_sem]) (by simp only [go_sem] <;> rfl) (by exact ⟨by first | exact WkR.pure rfl | exact WkR.nil _ | exact WkR.int (by first | omega | (simp; done) | (simp; omega)), by first | exact WkR.pure rfl | exact WkR.nil _ | exact WkR.int (by first | omega | (simp; done) | (simp; omega)), trivial⟩) (fr0) (by simp only [go_sem] <;> rfl) ?_
        refine Run.op (by simp only [go_sem] <;> rfl) (by simp only [go_sem] <;> rfl) ?_
        refine Run.nil ?_
        refine Exec.reg ?_
        iterate 2 (refine Run.op (by simp only [go_sem] <;> rfl) (by simp only [go_sem] <;> rfl) ?_)
        refine Run.nil ?_
        refine Exec.cnd (by simp only [go_sem] <;> rfl) (fun hb21 => ?_) (fun hb21 => ?_)
        · skip
          obtain ⟨n, hn⟩ : ∃ n, badS w k = some n := by rw [optI_ge] at hb21; exact Option.isSome_iff_exists.1 hb21
          have hr : misfitR w = ((k : Int), (n : Int), 0) := by rw [misfitR, if_pos hw, misfits_at hX hlt hn]
          have ho : optI (badS w k) = (n : Int) := by rw [hn]; rfl
          refine Exec.reg ?_
          iterate 5 (refine Run.op (by simp only [go_sem, hr, ho] <;> rfl) (by simp only [go_sem] <;> rfl) ?_)
          refine Run.nil ?_
          refine BlkK.ret ?_
          refine ForK.ret ?_
          refine BlkK.ret ?_
          exact Ends.fin [] (rs := [.tmp 2, .tmp 3, .tmp 4]) rfl (by simp only [go_sem, hr, ho] <;> rfl) (by simp only [go_sem, hr, ho] <;> first | rfl | ((repeat' (first | with_reducible_and_instances rfl | refine st_eq ?_ ?_ ?_ | refine ret_eq ?_ | refine tup_eq ?_ | refine tm_eq ?_ ?_ | refine arr_eq ?_ | refine cells_eq ?_ | refine val_eq ?_ | refine ls_eq ?_ ?_ | refine own_eq ?_ ?_ | refine sl_eq ?_ | refine b_eq ?_ | (refine i_eq ?_; omega))); done))
        · skip
          refine BlkK.nrm ?_
          refine Exec.reg1 ?_
          refine Run.op (by simp only [go_sem] <;> rfl) (by simp only [go_sem] <;> rfl) ?_
          refine Run.op (by simp only [go_sem]; (try simp (disch := omega) only [IntWalk.i64_in, IntWalk.u64_in, if_neg, if_pos])<;> rfl) (by simp only [go_sem] <;> rfl) ?_
          refine Run.op (by simp only [go_sem] <;> rfl) (by simp only [go_sem] <;> rfl) ?_
          refine Run.nil ?_
          refine ForK.nxt ?_ ?_ ?_
          · omega
          · exact Ghost.kp [1, 5] [1] (by simp only [go_sem]; first | ((repeat' (first | with_reducible_and_instances rfl | refine st_eq ?_ ?_ ?_ | refine ret_eq ?_ | refine tup_eq ?_ | refine tm_eq ?_ ?_ | refine arr_eq ?_ | refine cells_eq ?_ | refine val_eq ?_ | refine ls_eq ?_ ?_ | refine own_eq ?_ ?_ | refine sl_eq ?_ | refine b_eq ?_ | (refine i_eq ?_; omega))); done) | rfl)
          · exact fun j hj => if e : j = k then e ▸ (by rw [optI_ge] at hb21; simpa using hb21) else hX j (by omega)
      · skip
        have hr : misfitR w = (0, 0, 4) := by rw [misfitR, if_pos hw, misfits_none (fun j hj => hX j (by have := ge_of_dec hb14; omega))]
        refine Exec.exitS ?_
        refine ForK.ext ?_
        refine BlkK.hit ?_
        refine Exec.reg ?_
        iterate 3 (refine Run.op (by simp only [go_sem, hr] <;> rfl) (by simp only [go_sem] <;> rfl) ?_)
        refine Run.nil ?_
        exact Ends.fin [] (rs := [.tmp 2, .tmp 3, .tmp 4]) rfl (by simp only [go_sem, hr] <;> rfl) (by simp only [go_sem, hr] <;> first | rfl | ((repeat' (first | with_reducible_and_instances rfl | refine st_eq ?_ ?_ ?_ | refine ret_eq ?_ | refine tup_eq ?_ | refine tm_eq ?_ ?_ | refine arr_eq ?_ | refine cells_eq ?_ | refine val_eq ?_ | refine ls_eq ?_ ?_ | refine own_eq ?_ ?_ | refine sl_eq ?_ | refine b_eq ?_ | (refine i_eq ?_; omega))); done))

set_option maxRecDepth 20000 in
/-- meterworks/meterworksref12.before -/
theorem c_meterworksref12_before (w : Walk) (a0 : Nat) (h1 : w.rates.length ≤ 1000) (h2 : w.readings.length ≤ 1000) (hl : a0 < w.readings.length) : Contract Try.prog 49 [walkV w, .int a0] (.int (optI (befS w a0))) [] := by
  have hol := len_ofS w (rd w a0).house
  have hs := rd_get hl
  refine con_of follows_mixed Try.func49 rfl (by simp only [List.length_cons, List.length_nil, Try.ntmps49]; omega) (by kernel_rfl) rfl ?_
  refine Exec.reg ?_
  iterate 2 (refine Run.op (by simp only [go_sem, hs] <;> rfl) (by simp only [go_sem] <;> rfl) ?_)
  refine Run.nil ?_
  refine Exec.opk 11 ?_
  refine OpenK.op (by simp only [go_sem, hs] <;> rfl) (by simp only [go_sem] <;> rfl) (by simp only [go_sem] <;> rfl) ?_
  refine OpenK.op (by simp only [go_sem, hs] <;> rfl) (by simp only [go_sem] <;> rfl) (by simp only [go_sem] <;> rfl) ?_
  refine OpenK.op (by simp only [go_sem, hs] <;> rfl) (by simp only [go_sem] <;> rfl) (by simp only [go_sem] <;> rfl) ?_
  refine OpenK.op (by simp only [go_sem, hs] <;> rfl) (by simp only [go_sem] <;> rfl) (by simp only [go_sem] <;> rfl) ?_
  refine OpenK.op (by simp only [go_sem, hs]; (try simp (disch := omega) only [if_pos]); (try simp only [go_sem, hs])<;> rfl) (by simp only [go_sem] <;> rfl) (by simp only [go_sem] <;> rfl) ?_
  refine OpenK.op (by simp only [go_sem, hs] <;> rfl) (by simp only [go_sem] <;> rfl) (by simp only [go_sem] <;> rfl) ?_
  refine OpenK.op (by simp only [go_sem, hs] <;> rfl) (by simp only [go_sem] <;> rfl) (by simp only [go_sem] <;> rfl) ?_
  refine OpenK.cal (c_meterworksref12_Of w _ h1 h2) (by simp only [go_sem]) (by simp only [go_sem, hs] <;> rfl) (by exact ⟨by first | exact WkR.pure rfl | exact WkR.nil _ | exact WkR.int (by first | omega | (simp; done) | (simp; omega)), by first | exact WkR.pure rfl | exact WkR.nil _ | exact WkR.int (by first | omega | (simp; done) | (simp; omega)), trivial⟩) (fr0) (by simp only [go_sem, hs] <;> rfl) (by simp only [go_sem] <;> rfl) (by simp only [go_sem] <;> rfl) ?_
  refine OpenK.op (by simp only [go_sem, hs] <;> rfl) (by simp only [go_sem] <;> rfl) (by simp only [go_sem] <;> rfl) ?_
  refine OpenK.nil (OpenE.fin (by decide +kernel) (by decide +kernel) ?_)
  refine Exec.assocS ?_
  refine Exec.reg ?_
  refine Run.op (by simp only [go_sem, hs] <;> rfl) (by simp only [go_sem] <;> rfl) ?_
  refine Run.nil ?_
  refine Exec.blk ?_
  refine Exec.forA [1, 5, 6] [2] ((ofS w (rd w a0).house).length) (fun k => [.slot 6 (.int ((k : Int) + 1))]) (fun k => befS w a0 = befL a0 ((ofS w (rd w a0).house).drop k)) (fun k => by simp only [go_sem] <;> rfl) (by simp only [go_sem, hs] <;> rfl) ?_ (fun k hk hX => ?_)
  · rfl
  · skip
    refine Exec.assocS ?_
    refine Exec.reg ?_
    iterate 4 (refine Run.op (by simp only [go_sem, hs] <;> rfl) (by simp only [go_sem] <;> rfl) ?_)
    refine Run.nil ?_
    refine Exec.cndS (by simp only [go_sem, hs] <;> rfl) (fun hb18 => ?_) (fun hb18 => ?_)
    · skip
      have hlt : k + 1 < (ofS w (rd w a0).house).length := by have := of_decide_eq_true hb18; omega
      obtain ⟨a, ha⟩ : ∃ a, (ofS w (rd w a0).house)[k]? = some a := ⟨_, List.getElem?_eq_getElem (by omega)⟩
      obtain ⟨b, hb⟩ : ∃ b, (ofS w (rd w a0).house)[k + 1]? = some b := ⟨_, List.getElem?_eq_getElem (by omega)⟩
      have hal := (mem_ofS.1 (List.mem_of_getElem? ha)).1
      have hbl := (mem_ofS.1 (List.mem_of_getElem? hb)).1
      have hsa := rd_get hal
      have hsb := rd_get hbl
      have t1 : ((k : Int) + 1 - 1).toNat = k := by omega
      have t2 : ((k : Int) + 1).toNat = k + 1 := by omega
      refine Exec.skipS ?_
      refine Exec.blk ?_
      refine Exec.reg ?_
      iterate 2 (refine Run.op (by simp only [go_sem, hs, ha, hb, hsa, hsb, t1, t2] <;> rfl) (by simp only [go_sem] <;> rfl) ?_)
      refine Run.op (by simp only [go_sem, hs, ha, hb, hsa, hsb, t1, t2]; (try simp (disch := omega) only [if_pos]); (try simp only [go_sem, hs, ha, hb, hsa, hsb, t1, t2])<;> rfl) (by simp only [go_sem] <;> rfl) ?_
      iterate 3 (refine Run.op (by simp only [go_sem, hs, ha, hb, hsa, hsb, t1, t2] <;> rfl) (by simp only [go_sem] <;> rfl) ?_)
      refine Run.nil ?_
      refine Exec.cnd (by simp only [go_sem, hs, ha, hb, hsa, hsb, t1, t2] <;> rfl) (fun hb26 => ?_) (fun hb26 => ?_)
      · skip
        have hr : optI (befS w a0) = (a : Int) := by rw [hX, befL_at ha hb, if_pos (Int.ofNat_inj.1 (by simpa using hb26))]; rfl
        refine Exec.reg ?_
        iterate 2 (refine Run.op (by simp only [go_sem, hs, ha, hb, hsa, hsb, t1, t2, hr] <;> rfl) (by simp only [go_sem] <;> rfl) ?_)
        refine Run.op (by simp only [go_sem, hs, ha, hb, hsa, hsb, t1, t2, hr]; (try simp (disch := omega) only [IntWalk.i64_in, IntWalk.u64_in, if_neg, if_pos])<;> rfl) (by simp only [go_sem] <;> rfl) ?_
        refine Run.op (by simp only [go_sem, hs, ha, hb, hsa, hsb, t1, t2, hr]; (try simp (disch := omega) only [if_pos]); (try simp only [go_sem, hs, ha, hb, hsa, hsb, t1, t2, hr])<;> rfl) (by simp only [go_sem] <;> rfl) ?_
        iterate 2 (refine Run.op (by simp only [go_sem, hs, ha, hb, hsa, hsb, t1, t2, hr] <;> rfl) (by simp only [go_sem] <;> rfl) ?_)
        refine Run.nil ?_
        refine BlkK.ret ?_
        refine ForK.ret ?_
        refine BlkK.ret ?_
        exact Ends.fin [] (rs := [.tmp 4]) rfl (by simp only [go_sem, hs, ha, hb, hsa, hsb, t1, t2, hr] <;> rfl) (by simp only [go_sem, hs, ha, hb, hsa, hsb, t1, t2, hr] <;> first | rfl | ((repeat' (first | with_reducible_and_instances rfl | refine st_eq ?_ ?_ ?_ | refine ret_eq ?_ | refine tup_eq ?_ | refine tm_eq ?_ ?_ | refine arr_eq ?_ | refine cells_eq ?_ | refine val_eq ?_ | refine ls_eq ?_ ?_ | refine own_eq ?_ ?_ | refine sl_eq ?_ | refine b_eq ?_ | (refine i_eq ?_; omega))); done))
      · skip
        refine BlkK.nrm ?_
        refine Exec.reg1 ?_
        refine Run.op (by simp only [go_sem, hs, ha, hb, hsa, hsb, t1, t2] <;> rfl) (by simp only [go_sem] <;> rfl) ?_
        refine Run.op (by simp only [go_sem, hs, ha, hb, hsa, hsb, t1, t2]; (try simp (disch := omega) only [IntWalk.i64_in, IntWalk.u64_in, if_neg, if_pos])<;> rfl) (by simp only [go_sem] <;> rfl) ?_
        refine Run.op (by simp only [go_sem, hs, ha, hb, hsa, hsb, t1, t2] <;> rfl) (by simp only [go_sem] <;> rfl) ?_
        refine Run.nil ?_
        refine ForK.nxt ?_ ?_ ?_
        · omega
        · exact Ghost.kp [1, 5, 6] [2] (by simp only [go_sem, hs, ha, hb, hsa, hsb, t1, t2]; first | ((repeat' (first | with_reducible_and_instances rfl | refine st_eq ?_ ?_ ?_ | refine ret_eq ?_ | refine tup_eq ?_ | refine tm_eq ?_ ?_ | refine arr_eq ?_ | refine cells_eq ?_ | refine val_eq ?_ | refine ls_eq ?_ ?_ | refine own_eq ?_ ?_ | refine sl_eq ?_ | refine b_eq ?_ | (refine i_eq ?_; omega))); done) | rfl)
        · rw [hX, befL_at ha hb, if_neg (fun e => (by simpa using hb26 : ¬ (b : Int) = a0) (by rw [e]))]
    · skip
      have hr : optI (befS w a0) = -1 := by rw [hX, befL_end (by have := of_decide_eq_false hb18; omega)]; rfl
      refine Exec.exitS ?_
      refine ForK.ext ?_
      refine BlkK.hit ?_
      refine Exec.reg ?_
      refine Run.op (by simp only [go_sem, hr] <;> rfl) (by simp only [go_sem] <;> rfl) ?_
      refine Run.nil ?_
      exact Ends.fin [] (rs := [.tmp 4]) rfl (by simp only [go_sem, hr] <;> rfl) (by simp only [go_sem, hr] <;> first | rfl | ((repeat' (first | with_reducible_and_instances rfl | refine st_eq ?_ ?_ ?_ | refine ret_eq ?_ | refine tup_eq ?_ | refine tm_eq ?_ ?_ | refine arr_eq ?_ | refine cells_eq ?_ | refine val_eq ?_ | refine ls_eq ?_ ?_ | refine own_eq ?_ ?_ | refine sl_eq ?_ | refine b_eq ?_ | (refine i_eq ?_; omega))); done))

end Go.Mw
namespace Go.Mw
open Go.Proofs
set_option maxRecDepth 20000 in
set_option maxHeartbeats 4000000 in
/-- meterworks/meterworksref12.Made -/
theorem c_meterworksref12_Made (w : Walk) (x : Repair) (h1 : w.rates.length ≤ 1000) (h2 : w.readings.length ≤ 1000) (hw : walkB w = true) (hxb : -1000 ≤ x.b ∧ x.b ≤ 1000) : Contract Try.prog 31 [walkV w, repairV x] (madeV w x) [] := by
  obtain ⟨kd, a, b, c⟩ := x
  simp only at hxb ⊢
  refine con_of follows_mixed Try.func31 rfl (by simp only [List.length_cons, List.length_nil, Try.ntmps31]; omega) (by kernel_rfl) rfl ?_
  refine Exec.reg ?_
  iterate 4 (refine Run.op (by simp only [go_sem] <;> rfl) (by simp only [go_sem] <;> rfl) ?_)
  refine Run.nil ?_
  refine Exec.reg ?_
  iterate 3 (refine Run.op (by simp only [go_sem] <;> rfl) (by simp only [go_sem] <;> rfl) ?_)
  refine Run.nil ?_
  refine Exec.reg ?_
  iterate 3 (refine Run.op (by simp only [go_sem] <;> rfl) (by simp only [go_sem] <;> rfl) ?_)
  refine Run.op (by simp only [go_sem]; (try simp (disch := omega) only [if_pos]); (try simp only [go_sem]) <;> first | (refine ite_run ⟨by (try simp only [List.length_append, List.length_drop, List.length_take, List.length_map, List.length_cons, List.length_nil, List.length_replicate, List.length_set, List.length_range, Nat.zero_add]); omega, by (try simp only [List.length_append, List.length_drop, List.length_take, List.length_map, List.length_cons, List.length_nil, List.length_replicate, List.length_set, List.length_range, Nat.zero_add]); omega, by repeat (first | exact al_nil | assumption | refine al_app ?_ ?_ | refine al_drop ?_ | refine al_take ?_ | exact al_map (fun _ => rfl) | exact al_rep rfl | refine al_cons rfl ?_)⟩ ?_; simp only [go_sem] <;> rfl) | (refine ite_run ⟨by (try simp only [List.length_append, List.length_drop, List.length_take, List.length_map, List.length_cons, List.length_nil, List.length_replicate, List.length_set, List.length_range, Nat.zero_add]); omega, by repeat (first | exact al_nil | assumption | refine al_app ?_ ?_ | refine al_drop ?_ | refine al_take ?_ | exact al_map (fun _ => rfl) | exact al_rep rfl | refine al_cons rfl ?_)⟩ ?_; simp only [go_sem] <;> rfl) | rfl) (by simp only [go_sem] <;> rfl) ?_
  iterate 2 (refine Run.op (by simp only [go_sem] <;> rfl) (by simp only [go_sem] <;> rfl) ?_)
  refine Run.nil ?_
  refine Exec.assocS ?_
  refine Exec.reg ?_
  iterate 5 (refine Run.op (by simp only [go_sem] <;> rfl) (by simp only [go_sem] <;> rfl) ?_)
  refine Run.op (by simp only [go_sem]; (try simp (disch := omega) only [IntWalk.i64_in, IntWalk.u64_in, if_neg, if_pos])<;> rfl) (by simp only [go_sem] <;> rfl) ?_
  refine Run.cal (c_meterworksref12_in _ _ _) (by simp only [go_sem]) (by simp only [go_sem] <;> rfl) (by exact ⟨by first | exact WkR.pure rfl | exact WkR.nil _ | exact WkR.int (by first | omega | (simp; done) | (simp; omega)), by first | exact WkR.pure rfl | exact WkR.nil _ | exact WkR.int (by first | omega | (simp; done) | (simp; omega)), by first | exact WkR.pure rfl | exact WkR.nil _ | exact WkR.int (by first | omega | (simp; done) | (simp; omega)), trivial⟩) (fr0) (by simp only [go_sem] <;> rfl) ?_
  refine Run.op (by simp only [go_sem] <;> rfl) (by simp only [go_sem] <;> rfl) ?_
  refine Run.nil ?_
  refine Exec.cndS (by simp only [go_sem] <;> rfl) (fun hb24 => ?_) (fun hb24 => ?_)
  · skip
    have hin : inB a 0 ((w.readings.length : Int) - 1) = false := by simpa using hb24
    have hr : madeS w ⟨kd, a, b, c⟩ = none := by unfold madeS; rw [if_pos hin]
    refine Exec.assocS ?_
    refine Exec.reg ?_
    iterate 3 (refine Run.op (by simp only [go_sem, madeV, hr] <;> rfl) (by simp only [go_sem] <;> rfl) ?_)
    refine Run.nil ?_
    refine Exec.retS ?_
    exact Ends.fin [] (rs := [.cell 4 25, .tmp 5]) rfl (by simp only [go_sem, madeV, hr] <;> rfl) (by simp only [go_sem, madeV, hr] <;> first | rfl | ((repeat' (first | with_reducible_and_instances rfl | refine st_eq ?_ ?_ ?_ | refine ret_eq ?_ | refine tup_eq ?_ | refine tm_eq ?_ ?_ | refine arr_eq ?_ | refine cells_eq ?_ | refine val_eq ?_ | refine ls_eq ?_ ?_ | refine own_eq ?_ ?_ | refine sl_eq ?_ | refine b_eq ?_ | (refine i_eq ?_; omega))); done))
  · skip
    have hin : inB a 0 ((w.readings.length : Int) - 1) = true := by simpa using hb24
    have hin' := inB_iff.1 hin
    obtain ⟨a, rfl⟩ : ∃ a' : Nat, a = a' := ⟨a.toNat, by omega⟩
    have hal : a < w.readings.length := by omega
    have hsa := rd_get hal
    have hra := read_ok hw hal
    refine Exec.skipS ?_
    refine Exec.reg ?_
    iterate 4 (refine Run.op (by simp only [go_sem, hsa] <;> rfl) (by simp only [go_sem] <;> rfl) ?_)
    refine Run.op (by simp only [go_sem, hsa]; (try simp (disch := omega) only [if_pos]); (try simp only [go_sem, hsa])<;> rfl) (by simp only [go_sem] <;> rfl) ?_
    iterate 3 (refine Run.op (by simp only [go_sem, hsa] <;> rfl) (by simp only [go_sem] <;> rfl) ?_)
    refine Run.nil ?_
    refine Exec.reg ?_
    iterate 3 (refine Run.op (by simp only [go_sem, hsa] <;> rfl) (by simp only [go_sem] <;> rfl) ?_)
    refine Run.cal (c_meterworksref12_before w a h1 h2 hal) (by simp only [go_sem]) (by simp only [go_sem, hsa] <;> rfl) (by exact ⟨by first | exact WkR.pure rfl | exact WkR.nil _ | exact WkR.int (by first | omega | (simp; done) | (simp; omega)), by first | exact WkR.pure rfl | exact WkR.nil _ | exact WkR.int (by first | omega | (simp; done) | (simp; omega)), trivial⟩) (fr0) (by simp only [go_sem, hsa] <;> rfl) ?_
    refine Run.op (by simp only [go_sem, hsa] <;> rfl) (by simp only [go_sem] <;> rfl) ?_
    refine Run.nil ?_
    refine Exec.assocS ?_
    refine Exec.reg ?_
    iterate 2 (refine Run.op (by simp only [go_sem, hsa] <;> rfl) (by simp only [go_sem] <;> rfl) ?_)
    refine Run.nil ?_
    refine Exec.blk ?_
    refine Exec.reg ?_
    iterate 2 (refine Run.op (by simp only [go_sem, hsa] <;> rfl) (by simp only [go_sem] <;> rfl) ?_)
    refine Run.nil ?_
    refine Exec.cnd (by simp only [go_sem, hsa] <;> rfl) (fun hb38 => ?_) (fun hb38 => ?_)
    · skip
      have hk : kd = 0 := by simpa using hb38
      refine Exec.assocS ?_
      refine Exec.reg ?_
      iterate 4 (refine Run.op (by simp only [go_sem, hsa] <;> rfl) (by simp only [go_sem] <;> rfl) ?_)
      refine Run.op (by simp only [go_sem, hsa]; (try simp (disch := omega) only [IntWalk.i64_in, IntWalk.u64_in, if_neg, if_pos])<;> rfl) (by simp only [go_sem] <;> rfl) ?_
      iterate 3 (refine Run.op (by simp only [go_sem, hsa] <;> rfl) (by simp only [go_sem] <;> rfl) ?_)
      refine Run.op (by simp only [go_sem, hsa]; (try simp (disch := omega) only [IntWalk.i64_in, IntWalk.u64_in, if_neg, if_pos])<;> rfl) (by simp only [go_sem] <;> rfl) ?_
      refine Run.cal (c_meterworksref12_in _ _ _) (by simp only [go_sem]) (by simp only [go_sem, hsa] <;> rfl) (by exact ⟨by first | exact WkR.pure rfl | exact WkR.nil _ | exact WkR.int (by first | omega | (simp; done) | (simp; omega)), by first | exact WkR.pure rfl | exact WkR.nil _ | exact WkR.int (by first | omega | (simp; done) | (simp; omega)), by first | exact WkR.pure rfl | exact WkR.nil _ | exact WkR.int (by first | omega | (simp; done) | (simp; omega)), trivial⟩) (fr0) (by simp only [go_sem, hsa] <;> rfl) ?_
      refine Run.op (by simp only [go_sem, hsa] <;> rfl) (by simp only [go_sem] <;> rfl) ?_
      refine Run.nil ?_
      refine Exec.cndS (by simp only [go_sem, hsa] <;> rfl) (fun hb50 => ?_) (fun hb50 => ?_)
      · skip
        have hin2 : inB b ((a : Int) + 1) ((w.readings.length : Int) - 1) = false := by simpa using hb50
        have hr : madeS w ⟨kd, a, b, c⟩ = none := by unfold madeS; rw [if_neg (by simp [hin])]; simp only [Int.toNat_natCast]; rw [if_pos hk, if_pos hin2]
        refine Exec.assocS ?_
        refine Exec.reg ?_
        iterate 3 (refine Run.op (by simp only [go_sem, hsa, madeV, hr] <;> rfl) (by simp only [go_sem] <;> rfl) ?_)
        refine Run.nil ?_
        refine Exec.retS ?_
        refine BlkK.ret ?_
        exact Ends.fin [] (rs := [.cell 4 25, .tmp 5]) rfl (by simp only [go_sem, hsa, madeV, hr] <;> rfl) (by simp only [go_sem, hsa, madeV, hr] <;> first | rfl | ((repeat' (first | with_reducible_and_instances rfl | refine st_eq ?_ ?_ ?_ | refine ret_eq ?_ | refine tup_eq ?_ | refine tm_eq ?_ ?_ | refine arr_eq ?_ | refine cells_eq ?_ | refine val_eq ?_ | refine ls_eq ?_ ?_ | refine own_eq ?_ ?_ | refine sl_eq ?_ | refine b_eq ?_ | (refine i_eq ?_; omega))); done))
      · skip
        have hin2 : inB b ((a : Int) + 1) ((w.readings.length : Int) - 1) = true := by simpa using hb50
        have hin2' := inB_iff.1 hin2
        obtain ⟨b, rfl⟩ : ∃ b' : Nat, b = b' := ⟨b.toNat, by omega⟩
        have hbl : b < w.readings.length := by omega
        have hsb := rd_get hbl
        have hrb := read_ok hw hbl
        have hab : a ≠ b := by omega
        refine Exec.skipS ?_
        refine Exec.reg ?_
        iterate 4 (refine Run.op (by simp only [go_sem, hsa, hsb, List.getElem?_set_ne hab] <;> rfl) (by simp only [go_sem] <;> rfl) ?_)
        refine Run.op (by simp only [go_sem, hsa, hsb, List.getElem?_set_ne hab]; (try simp (disch := omega) only [if_pos]); (try simp only [go_sem, hsa, hsb, List.getElem?_set_ne hab])<;> rfl) (by simp only [go_sem] <;> rfl) ?_
        iterate 3 (refine Run.op (by simp only [go_sem, hsa, hsb, List.getElem?_set_ne hab] <;> rfl) (by simp only [go_sem] <;> rfl) ?_)
        refine Run.nil ?_
        refine Exec.assocS ?_
        by_cases hd : (rd w a).day = (rd w b).day
        · skip
          have hg : ((rd w a).day != (rd w b).day) = false := by simp [hd]
          refine Exec.reg ?_
          iterate 6 (refine Run.op (by simp only [go_sem, hsa, hsb, List.getElem?_set_ne hab, hg] <;> rfl) (by simp only [go_sem] <;> rfl) ?_)
          refine Run.yes (by simp only [go_sem] <;> rfl) (by simp only [go_sem, hsa, hsb, List.getElem?_set_ne hab, hg] <;> rfl) (by simp only [go_sem] <;> rfl) ?_
          refine Run.yes (by simp only [go_sem] <;> rfl) (by simp only [go_sem, hsa, hsb, List.getElem?_set_ne hab, hg] <;> rfl) (by simp only [go_sem] <;> rfl) ?_
          refine Run.yes (by simp only [go_sem] <;> rfl) (by simp only [go_sem, hsa, hsb, List.getElem?_set_ne hab, hg] <;> rfl) (by simp only [go_sem] <;> rfl) ?_
          refine Run.yes (by simp only [go_sem] <;> rfl) (by simp only [go_sem, hsa, hsb, List.getElem?_set_ne hab, hg] <;> rfl) (by simp only [go_sem] <;> rfl) ?_
          refine Run.yes (by simp only [go_sem] <;> rfl) (by simp only [go_sem, hsa, hsb, List.getElem?_set_ne hab, hg]; (try simp (disch := omega) only [IntWalk.i64_in, IntWalk.u64_in, if_neg, if_pos])<;> rfl) (by simp only [go_sem] <;> rfl) ?_
          refine Run.yes (by simp only [go_sem] <;> rfl) (by simp only [go_sem, hsa, hsb, List.getElem?_set_ne hab, hg] <;> rfl) (by simp only [go_sem] <;> rfl) ?_
          refine Run.yes (by simp only [go_sem] <;> rfl) (by simp only [go_sem, hsa, hsb, List.getElem?_set_ne hab, hg] <;> rfl) (by simp only [go_sem] <;> rfl) ?_
          refine Run.gop (by simp only [go_sem] <;> rfl) (by simp only [go_sem, hsa, hsb, List.getElem?_set_ne hab, hg] <;> rfl) (by simp only [go_sem] <;> rfl) ?_
          refine Run.gop (by simp only [go_sem] <;> rfl) (by simp only [go_sem, hsa, hsb, List.getElem?_set_ne hab, hg] <;> rfl) (by simp only [go_sem] <;> rfl) ?_
          refine Run.gop (by simp only [go_sem] <;> rfl) (by simp only [go_sem, hsa, hsb, List.getElem?_set_ne hab, hg] <;> rfl) (by simp only [go_sem] <;> rfl) ?_
          refine Run.gop (by simp only [go_sem] <;> rfl) (by simp only [go_sem, hsa, hsb, List.getElem?_set_ne hab, hg] <;> rfl) (by simp only [go_sem] <;> rfl) ?_
          refine Run.gop (by simp only [go_sem] <;> rfl) (by simp only [go_sem, hsa, hsb, List.getElem?_set_ne hab, hg]; (try simp (disch := omega) only [IntWalk.i64_in, IntWalk.u64_in, if_neg, if_pos])<;> rfl) (by simp only [go_sem] <;> rfl) ?_
          refine Run.gop (by simp only [go_sem] <;> rfl) (by simp only [go_sem, hsa, hsb, List.getElem?_set_ne hab, hg] <;> rfl) (by simp only [go_sem] <;> rfl) ?_
          refine Run.yes (by simp only [go_sem] <;> rfl) (by simp only [go_sem, hsa, hsb, List.getElem?_set_ne hab, hg] <;> rfl) (by simp only [go_sem] <;> rfl) ?_
          refine Run.op (by simp only [go_sem, hsa, hsb, List.getElem?_set_ne hab, hg] <;> rfl) (by simp only [go_sem] <;> rfl) ?_
          refine Run.nil ?_
          refine Exec.cndS (by simp only [go_sem, hsa, hsb, List.getElem?_set_ne hab, hg] <;> rfl) (fun hb78 => ?_) (fun hb78 => ?_)
          · skip
            have hh : (rd w a).house - (rd w b).house ≠ 1 ∧ (rd w b).house - (rd w a).house ≠ 1 := by simpa using hb78
            have hr : madeS w ⟨kd, a, b, c⟩ = none := by unfold madeS; rw [if_neg (by simp [hin])]; simp only [Int.toNat_natCast]; rw [if_pos hk, if_neg (by simp [hin2]), if_pos (.inr hh)]
            refine Exec.assocS ?_
            refine Exec.reg ?_
            iterate 3 (refine Run.op (by simp only [go_sem, hsa, hsb, List.getElem?_set_ne hab, hg, madeV, hr] <;> rfl) (by simp only [go_sem] <;> rfl) ?_)
            refine Run.nil ?_
            refine Exec.retS ?_
            refine BlkK.ret ?_
            exact Ends.fin [] (rs := [.cell 4 25, .tmp 5]) rfl (by simp only [go_sem, hsa, hsb, List.getElem?_set_ne hab, hg, madeV, hr] <;> rfl) (by simp only [go_sem, hsa, hsb, List.getElem?_set_ne hab, hg, madeV, hr] <;> first | rfl | ((repeat' (first | with_reducible_and_instances rfl | refine st_eq ?_ ?_ ?_ | refine ret_eq ?_ | refine tup_eq ?_ | refine tm_eq ?_ ?_ | refine arr_eq ?_ | refine cells_eq ?_ | refine val_eq ?_ | refine ls_eq ?_ ?_ | refine own_eq ?_ ?_ | refine sl_eq ?_ | refine b_eq ?_ | (refine i_eq ?_; omega))); done))
          · skip
            have hh : ¬ ((rd w a).house - (rd w b).house ≠ 1 ∧ (rd w b).house - (rd w a).house ≠ 1) := fun h => by simp [h.1, h.2] at hb78
            have hr : madeS w ⟨kd, a, b, c⟩ = some ⟨w.rates, (w.readings.set a { rd w a with shows := (rd w b).shows }).set b { rd w b with shows := (rd w a).shows }⟩ := by unfold madeS; rw [if_neg (by simp [hin])]; simp only [Int.toNat_natCast]; rw [if_pos hk, if_neg (by simp [hin2]), if_neg (by simp only [hd]; intro h; rcases h with h | h; exact h rfl; exact hh h)]
            refine Exec.skipS ?_
            refine Exec.reg ?_
            iterate 6 (refine Run.op (by simp only [go_sem, hsa, hsb, List.getElem?_set_ne hab, hg, madeV, hr] <;> rfl) (by simp only [go_sem] <;> rfl) ?_)
            refine Run.op (by simp only [go_sem, hsa, hsb, List.getElem?_set_ne hab, hg, madeV, hr]; (try simp (disch := omega) only [if_pos]); (try simp only [go_sem, hsa, hsb, List.getElem?_set_ne hab, hg, madeV, hr])<;> rfl) (by simp only [go_sem] <;> rfl) ?_
            iterate 2 (refine Run.op (by simp only [go_sem, hsa, hsb, List.getElem?_set_ne hab, hg, madeV, hr] <;> rfl) (by simp only [go_sem] <;> rfl) ?_)
            refine Run.nil ?_
            refine Exec.reg ?_
            iterate 6 (refine Run.op (by simp only [go_sem, hsa, hsb, List.getElem?_set_ne hab, hg, madeV, hr] <;> rfl) (by simp only [go_sem] <;> rfl) ?_)
            refine Run.op (by simp only [go_sem, hsa, hsb, List.getElem?_set_ne hab, hg, madeV, hr]; (try simp (disch := omega) only [if_pos]); (try simp only [go_sem, hsa, hsb, List.getElem?_set_ne hab, hg, madeV, hr])<;> rfl) (by simp only [go_sem] <;> rfl) ?_
            iterate 2 (refine Run.op (by simp only [go_sem, hsa, hsb, List.getElem?_set_ne hab, hg, madeV, hr] <;> rfl) (by simp only [go_sem] <;> rfl) ?_)
            refine Run.nil ?_
            refine Exec.reg ?_
            refine Run.frz 12 (by simp only [go_sem] <;> rfl) ?_
            iterate 3 (refine Run.op (by simp only [go_sem, hsa, hsb, List.getElem?_set_ne hab, hg, madeV, hr] <;> rfl) (by simp only [go_sem] <;> rfl) ?_)
            refine Run.nil ?_
            refine BlkK.ret ?_
            exact Ends.fin [] (rs := [.cell 4 25, .tmp 5]) rfl (by simp only [go_sem, hsa, hsb, List.getElem?_set_ne hab, hg, madeV, hr] <;> rfl) (by simp only [go_sem, hsa, hsb, List.getElem?_set_ne hab, hg, madeV, hr] <;> first | rfl | ((repeat' (first | with_reducible_and_instances rfl | refine st_eq ?_ ?_ ?_ | refine ret_eq ?_ | refine tup_eq ?_ | refine tm_eq ?_ ?_ | refine arr_eq ?_ | refine cells_eq ?_ | refine val_eq ?_ | refine ls_eq ?_ ?_ | refine own_eq ?_ ?_ | refine sl_eq ?_ | refine b_eq ?_ | (refine i_eq ?_; omega))); (refine Eq.trans ?_ (List.take_of_length_le (by simp)).symm; simp [List.map_set, List.map_take, List.map_drop, encReading, show ((a : Int) + 1).toNat = a + 1 from by omega])))
        · skip
          have hg : ((rd w a).day != (rd w b).day) = true := by simp [hd]
          refine Exec.reg ?_
          iterate 6 (refine Run.op (by simp only [go_sem, hsa, hsb, List.getElem?_set_ne hab, hg] <;> rfl) (by simp only [go_sem] <;> rfl) ?_)
          refine Run.skp (by simp only [go_sem] <;> rfl) (by simp only [go_sem] <;> rfl) ?_
          refine Run.skp (by simp only [go_sem] <;> rfl) (by simp only [go_sem] <;> rfl) ?_
          refine Run.skp (by simp only [go_sem] <;> rfl) (by simp only [go_sem] <;> rfl) ?_
          refine Run.skp (by simp only [go_sem] <;> rfl) (by simp only [go_sem] <;> rfl) ?_
          refine Run.skp (by simp only [go_sem] <;> rfl) (by simp only [go_sem] <;> rfl) ?_
          refine Run.skp (by simp only [go_sem] <;> rfl) (by simp only [go_sem] <;> rfl) ?_
          refine Run.skp (by simp only [go_sem] <;> rfl) (by simp only [go_sem] <;> rfl) ?_
          refine Run.skp (by simp only [go_sem] <;> rfl) (by simp only [go_sem] <;> rfl) ?_
          refine Run.skp (by simp only [go_sem] <;> rfl) (by simp only [go_sem] <;> rfl) ?_
          refine Run.skp (by simp only [go_sem] <;> rfl) (by simp only [go_sem] <;> rfl) ?_
          refine Run.skp (by simp only [go_sem] <;> rfl) (by simp only [go_sem] <;> rfl) ?_
          refine Run.skp (by simp only [go_sem] <;> rfl) (by simp only [go_sem] <;> rfl) ?_
          refine Run.skp (by simp only [go_sem] <;> rfl) (by simp only [go_sem] <;> rfl) ?_
          refine Run.skp (by simp only [go_sem] <;> rfl) (by simp only [go_sem] <;> rfl) ?_
          refine Run.op (by simp only [go_sem, hsa, hsb, List.getElem?_set_ne hab, hg] <;> rfl) (by simp only [go_sem] <;> rfl) ?_
          refine Run.nil ?_
          refine Exec.cndS (by simp only [go_sem, hsa, hsb, List.getElem?_set_ne hab, hg] <;> rfl) (fun hb78 => ?_) (fun hb78 => ?_)
          · skip
            have hr : madeS w ⟨kd, a, b, c⟩ = none := by unfold madeS; rw [if_neg (by simp [hin])]; simp only [Int.toNat_natCast]; rw [if_pos hk, if_neg (by simp [hin2]), if_pos (.inl hd)]
            refine Exec.assocS ?_
            refine Exec.reg ?_
            iterate 3 (refine Run.op (by simp only [go_sem, hsa, hsb, List.getElem?_set_ne hab, hg, madeV, hr] <;> rfl) (by simp only [go_sem] <;> rfl) ?_)
            refine Run.nil ?_
            refine Exec.retS ?_
            refine BlkK.ret ?_
            exact Ends.fin [] (rs := [.cell 4 25, .tmp 5]) rfl (by simp only [go_sem, hsa, hsb, List.getElem?_set_ne hab, hg, madeV, hr] <;> rfl) (by simp only [go_sem, hsa, hsb, List.getElem?_set_ne hab, hg, madeV, hr] <;> first | rfl | ((repeat' (first | with_reducible_and_instances rfl | refine st_eq ?_ ?_ ?_ | refine ret_eq ?_ | refine tup_eq ?_ | refine tm_eq ?_ ?_ | refine arr_eq ?_ | refine cells_eq ?_ | refine val_eq ?_ | refine ls_eq ?_ ?_ | refine own_eq ?_ ?_ | refine sl_eq ?_ | refine b_eq ?_ | (refine i_eq ?_; omega))); done))
          · exact absurd hb78 (by simp)
    · skip
      have hk0 : ¬ kd = 0 := by simpa using hb38
      refine Exec.reg ?_
      iterate 2 (refine Run.op (by simp only [go_sem, hsa] <;> rfl) (by simp only [go_sem] <;> rfl) ?_)
      refine Run.nil ?_
      refine Exec.cnd (by simp only [go_sem, hsa] <;> rfl) (fun hb97 => ?_) (fun hb97 => ?_)
      · skip
        have hk : kd = 1 := by simpa using hb97
        refine Exec.assocS ?_
        by_cases hp : ∃ p, befS w a = some p
        · skip
          obtain ⟨p, hp⟩ := hp
          have hpl := befS_lt hp
          have hsp := rd_get hpl
          have ho : optI (befS w a) = (p : Int) := by rw [hp]; rfl
          have hg : decide ((p : Int) < 0) = false := by simp
          have hg2 : decide ((p : Int) ≥ 0) = true := by simp
          refine Exec.opk 15 ?_
          refine OpenK.op (by simp only [go_sem, hsa, ho, hsp, hg, hg2] <;> rfl) (by simp only [go_sem] <;> rfl) (by simp only [go_sem] <;> rfl) ?_
          refine OpenK.op (by simp only [go_sem, hsa, ho, hsp, hg, hg2] <;> rfl) (by simp only [go_sem] <;> rfl) (by simp only [go_sem] <;> rfl) ?_
          refine OpenK.op (by simp only [go_sem, hsa, ho, hsp, hg, hg2] <;> rfl) (by simp only [go_sem] <;> rfl) (by simp only [go_sem] <;> rfl) ?_
          refine OpenK.yes (by simp only [go_sem] <;> rfl) (by simp only [go_sem, hsa, ho, hsp, hg, hg2] <;> rfl) (by simp only [go_sem] <;> rfl) (by simp only [go_sem] <;> rfl) ?_
          refine OpenK.yes (by simp only [go_sem] <;> rfl) (by simp only [go_sem, hsa, ho, hsp, hg, hg2] <;> rfl) (by simp only [go_sem] <;> rfl) (by simp only [go_sem] <;> rfl) ?_
          refine OpenK.yes (by simp only [go_sem] <;> rfl) (by simp only [go_sem, hsa, ho, hsp, hg, hg2] <;> rfl) (by simp only [go_sem] <;> rfl) (by simp only [go_sem] <;> rfl) ?_
          refine OpenK.yes (by simp only [go_sem] <;> rfl) (by simp only [go_sem, hsa, ho, hsp, hg, hg2]; (try simp (disch := omega) only [if_pos]); (try simp only [go_sem, hsa, ho, hsp, hg, hg2])<;> rfl) (by simp only [go_sem] <;> rfl) (by simp only [go_sem] <;> rfl) ?_
          refine OpenK.yes (by simp only [go_sem] <;> rfl) (by simp only [go_sem, hsa, ho, hsp, hg, hg2] <;> rfl) (by simp only [go_sem] <;> rfl) (by simp only [go_sem] <;> rfl) ?_
          refine OpenK.yes (by simp only [go_sem] <;> rfl) (by simp only [go_sem, hsa, ho, hsp, hg, hg2] <;> rfl) (by simp only [go_sem] <;> rfl) (by simp only [go_sem] <;> rfl) ?_
          refine OpenK.yes (by simp only [go_sem] <;> rfl) (by simp only [go_sem, hsa, ho, hsp, hg, hg2] <;> rfl) (by simp only [go_sem] <;> rfl) (by simp only [go_sem] <;> rfl) ?_
          refine OpenK.yes (by simp only [go_sem] <;> rfl) (by simp only [go_sem, hsa, ho, hsp, hg, hg2] <;> rfl) (by simp only [go_sem] <;> rfl) (by simp only [go_sem] <;> rfl) ?_
          refine OpenK.yes (by simp only [go_sem] <;> rfl) (by simp only [go_sem, hsa, ho, hsp, hg, hg2] <;> rfl) (by simp only [go_sem] <;> rfl) (by simp only [go_sem] <;> rfl) ?_
          refine OpenK.op (by simp only [go_sem, hsa, ho, hsp, hg, hg2] <;> rfl) (by simp only [go_sem] <;> rfl) (by simp only [go_sem] <;> rfl) ?_
          refine OpenK.nil (OpenE.fin (by decide +kernel) (by decide +kernel) ?_)
          refine Exec.cndS (by simp only [go_sem, hsa, ho, hsp, hg, hg2] <;> rfl) (fun hb111 => ?_) (fun hb111 => ?_)
          · skip
            have hh : ¬ (rd w p).shows = (rd w a).shows := by simpa using hb111
            have hr : madeS w ⟨kd, a, b, c⟩ = none := by unfold madeS; rw [if_neg (by simp [hin])]; simp only [Int.toNat_natCast]; rw [if_neg hk0, if_pos hk, hp]; simp only; rw [if_neg hh]
            refine Exec.assocS ?_
            refine Exec.reg ?_
            iterate 3 (refine Run.op (by simp only [go_sem, hsa, ho, hsp, hg, hg2, madeV, hr] <;> rfl) (by simp only [go_sem] <;> rfl) ?_)
            refine Run.nil ?_
            refine Exec.retS ?_
            refine BlkK.ret ?_
            exact Ends.fin [] (rs := [.cell 4 25, .tmp 5]) rfl (by simp only [go_sem, hsa, ho, hsp, hg, hg2, madeV, hr] <;> rfl) (by simp only [go_sem, hsa, ho, hsp, hg, hg2, madeV, hr] <;> first | rfl | ((repeat' (first | with_reducible_and_instances rfl | refine st_eq ?_ ?_ ?_ | refine ret_eq ?_ | refine tup_eq ?_ | refine tm_eq ?_ ?_ | refine arr_eq ?_ | refine cells_eq ?_ | refine val_eq ?_ | refine ls_eq ?_ ?_ | refine own_eq ?_ ?_ | refine sl_eq ?_ | refine b_eq ?_ | (refine i_eq ?_; omega))); done))
          · skip
            have hh : (rd w p).shows = (rd w a).shows := by simpa using hb111
            have hr : madeS w ⟨kd, a, b, c⟩ = some ⟨w.rates, w.readings.take a ++ w.readings.drop (a + 1)⟩ := by unfold madeS; rw [if_neg (by simp [hin])]; simp only [Int.toNat_natCast]; rw [if_neg hk0, if_pos hk, hp]; simp only; rw [if_pos hh]
            refine Exec.skipS ?_
            refine Exec.opk 18 ?_
            refine OpenK.op (by simp only [go_sem, hsa, ho, hsp, hg, hg2, madeV, hr] <;> rfl) (by simp only [go_sem] <;> rfl) (by simp only [go_sem] <;> rfl) ?_
            refine OpenK.op (by simp only [go_sem, hsa, ho, hsp, hg, hg2, madeV, hr] <;> rfl) (by simp only [go_sem] <;> rfl) (by simp only [go_sem] <;> rfl) ?_
            refine OpenK.op (by simp only [go_sem, hsa, ho, hsp, hg, hg2, madeV, hr] <;> rfl) (by simp only [go_sem] <;> rfl) (by simp only [go_sem] <;> rfl) ?_
            refine OpenK.op (by simp only [go_sem, hsa, ho, hsp, hg, hg2, madeV, hr] <;> rfl) (by simp only [go_sem] <;> rfl) (by simp only [go_sem] <;> rfl) ?_
            refine OpenK.op (by simp only [go_sem, hsa, ho, hsp, hg, hg2, madeV, hr] <;> rfl) (by simp only [go_sem] <;> rfl) (by simp only [go_sem] <;> rfl) ?_
            refine OpenK.op (by simp only [go_sem, hsa, ho, hsp, hg, hg2, madeV, hr]; (try simp (disch := omega) only [if_pos]); (try simp only [go_sem, hsa, ho, hsp, hg, hg2, madeV, hr])<;> rfl) (by simp only [go_sem] <;> rfl) (by simp only [go_sem] <;> rfl) ?_
            refine OpenK.op (by simp only [go_sem, hsa, ho, hsp, hg, hg2, madeV, hr]; (try simp (disch := omega) only [if_pos]); (try simp only [go_sem, hsa, ho, hsp, hg, hg2, madeV, hr]) <;> first | (refine ite_run ⟨by (try simp only [List.length_append, List.length_drop, List.length_take, List.length_map, List.length_cons, List.length_nil, List.length_replicate, List.length_set, List.length_range, Nat.zero_add]); omega, by (try simp only [List.length_append, List.length_drop, List.length_take, List.length_map, List.length_cons, List.length_nil, List.length_replicate, List.length_set, List.length_range, Nat.zero_add]); omega, by repeat (first | exact al_nil | assumption | refine al_app ?_ ?_ | refine al_drop ?_ | refine al_take ?_ | exact al_map (fun _ => rfl) | exact al_rep rfl | refine al_cons rfl ?_)⟩ ?_; simp only [go_sem, hsa, ho, hsp, hg, hg2, madeV, hr] <;> rfl) | (refine ite_run ⟨by (try simp only [List.length_append, List.length_drop, List.length_take, List.length_map, List.length_cons, List.length_nil, List.length_replicate, List.length_set, List.length_range, Nat.zero_add]); omega, by repeat (first | exact al_nil | assumption | refine al_app ?_ ?_ | refine al_drop ?_ | refine al_take ?_ | exact al_map (fun _ => rfl) | exact al_rep rfl | refine al_cons rfl ?_)⟩ ?_; simp only [go_sem, hsa, ho, hsp, hg, hg2, madeV, hr] <;> rfl) | rfl) (by simp only [go_sem] <;> rfl) (by simp only [go_sem] <;> rfl) ?_
            refine OpenK.op (by simp only [go_sem, hsa, ho, hsp, hg, hg2, madeV, hr] <;> rfl) (by simp only [go_sem] <;> rfl) (by simp only [go_sem] <;> rfl) ?_
            refine OpenK.op (by simp only [go_sem, hsa, ho, hsp, hg, hg2, madeV, hr] <;> rfl) (by simp only [go_sem] <;> rfl) (by simp only [go_sem] <;> rfl) ?_
            refine OpenK.op (by simp only [go_sem, hsa, ho, hsp, hg, hg2, madeV, hr] <;> rfl) (by simp only [go_sem] <;> rfl) (by simp only [go_sem] <;> rfl) ?_
            refine OpenK.op (by simp only [go_sem, hsa, ho, hsp, hg, hg2, madeV, hr] <;> rfl) (by simp only [go_sem] <;> rfl) (by simp only [go_sem] <;> rfl) ?_
            refine OpenK.op (by simp only [go_sem, hsa, ho, hsp, hg, hg2, madeV, hr]; (try simp (disch := omega) only [IntWalk.i64_in, IntWalk.u64_in, if_neg, if_pos])<;> rfl) (by simp only [go_sem] <;> rfl) (by simp only [go_sem] <;> rfl) ?_
            refine OpenK.op (by simp only [go_sem, hsa, ho, hsp, hg, hg2, madeV, hr]; (try simp (disch := omega) only [if_pos]); (try simp only [go_sem, hsa, ho, hsp, hg, hg2, madeV, hr])<;> rfl) (by simp only [go_sem] <;> rfl) (by simp only [go_sem] <;> rfl) ?_
            refine OpenK.op (by simp only [go_sem, hsa, ho, hsp, hg, hg2, madeV, hr]; (try simp (disch := omega) only [if_pos]); (try simp only [go_sem, hsa, ho, hsp, hg, hg2, madeV, hr]) <;> first | (refine ite_run ⟨by (try simp only [List.length_append, List.length_drop, List.length_take, List.length_map, List.length_cons, List.length_nil, List.length_replicate, List.length_set, List.length_range, Nat.zero_add]); omega, by (try simp only [List.length_append, List.length_drop, List.length_take, List.length_map, List.length_cons, List.length_nil, List.length_replicate, List.length_set, List.length_range, Nat.zero_add]); omega, by repeat (first | exact al_nil | assumption | refine al_app ?_ ?_ | refine al_drop ?_ | refine al_take ?_ | exact al_map (fun _ => rfl) | exact al_rep rfl | refine al_cons rfl ?_)⟩ ?_; simp only [go_sem, hsa, ho, hsp, hg, hg2, madeV, hr] <;> rfl) | (refine ite_run ⟨by (try simp only [List.length_append, List.length_drop, List.length_take, List.length_map, List.length_cons, List.length_nil, List.length_replicate, List.length_set, List.length_range, Nat.zero_add]); omega, by repeat (first | exact al_nil | assumption | refine al_app ?_ ?_ | refine al_drop ?_ | refine al_take ?_ | exact al_map (fun _ => rfl) | exact al_rep rfl | refine al_cons rfl ?_)⟩ ?_; simp only [go_sem, hsa, ho, hsp, hg, hg2, madeV, hr] <;> rfl) | rfl) (by simp only [go_sem] <;> rfl) (by simp only [go_sem] <;> rfl) ?_
            refine OpenK.op (by simp only [go_sem, hsa, ho, hsp, hg, hg2, madeV, hr] <;> rfl) (by simp only [go_sem] <;> rfl) (by simp only [go_sem] <;> rfl) ?_
            refine OpenK.op (by simp only [go_sem, hsa, ho, hsp, hg, hg2, madeV, hr] <;> rfl) (by simp only [go_sem] <;> rfl) (by simp only [go_sem] <;> rfl) ?_
            refine OpenK.nil (OpenE.fin (by decide +kernel) (by decide +kernel) ?_)
            refine Exec.reg ?_
            refine Run.frz 113 (by simp only [go_sem] <;> rfl) ?_
            iterate 3 (refine Run.op (by simp only [go_sem, hsa, ho, hsp, hg, hg2, madeV, hr] <;> rfl) (by simp only [go_sem] <;> rfl) ?_)
            refine Run.nil ?_
            refine BlkK.ret ?_
            exact Ends.fin [] (rs := [.cell 4 25, .tmp 5]) rfl (by simp only [go_sem, hsa, ho, hsp, hg, hg2, madeV, hr] <;> rfl) (by simp only [go_sem, hsa, ho, hsp, hg, hg2, madeV, hr] <;> first | rfl | ((repeat' (first | with_reducible_and_instances rfl | refine st_eq ?_ ?_ ?_ | refine ret_eq ?_ | refine tup_eq ?_ | refine tm_eq ?_ ?_ | refine arr_eq ?_ | refine cells_eq ?_ | refine val_eq ?_ | refine ls_eq ?_ ?_ | refine own_eq ?_ ?_ | refine sl_eq ?_ | refine b_eq ?_ | (refine i_eq ?_; omega))); (refine Eq.trans ?_ (List.take_of_length_le (by simp)).symm; simp [List.map_set, List.map_take, List.map_drop, encReading, show ((a : Int) + 1).toNat = a + 1 from by omega])))
        · skip
          have hp : befS w a = none := by
            cases h : befS w a with
            | none => rfl
            | some p => exact absurd ⟨p, h⟩ hp
          have ho : optI (befS w a) = -1 := by rw [hp]; rfl
          have hg : decide ((-1 : Int) < 0) = true := by decide
          have hg2 : decide ((-1 : Int) ≥ 0) = false := by decide
          refine Exec.opk 15 ?_
          refine OpenK.op (by simp only [go_sem, hsa, ho, hg, hg2] <;> rfl) (by simp only [go_sem] <;> rfl) (by simp only [go_sem] <;> rfl) ?_
          refine OpenK.op (by simp only [go_sem, hsa, ho, hg, hg2] <;> rfl) (by simp only [go_sem] <;> rfl) (by simp only [go_sem] <;> rfl) ?_
          refine OpenK.op (by simp only [go_sem, hsa, ho, hg, hg2] <;> rfl) (by simp only [go_sem] <;> rfl) (by simp only [go_sem] <;> rfl) ?_
          refine OpenK.skp (by simp only [go_sem] <;> rfl) (by simp only [go_sem] <;> rfl) (by simp only [go_sem] <;> rfl) ?_
          refine OpenK.skp (by simp only [go_sem] <;> rfl) (by simp only [go_sem] <;> rfl) (by simp only [go_sem] <;> rfl) ?_
          refine OpenK.skp (by simp only [go_sem] <;> rfl) (by simp only [go_sem] <;> rfl) (by simp only [go_sem] <;> rfl) ?_
          refine OpenK.skp (by simp only [go_sem] <;> rfl) (by simp only [go_sem] <;> rfl) (by simp only [go_sem] <;> rfl) ?_
          refine OpenK.skp (by simp only [go_sem] <;> rfl) (by simp only [go_sem] <;> rfl) (by simp only [go_sem] <;> rfl) ?_
          refine OpenK.skp (by simp only [go_sem] <;> rfl) (by simp only [go_sem] <;> rfl) (by simp only [go_sem] <;> rfl) ?_
          refine OpenK.skp (by simp only [go_sem] <;> rfl) (by simp only [go_sem] <;> rfl) (by simp only [go_sem] <;> rfl) ?_
          refine OpenK.skp (by simp only [go_sem] <;> rfl) (by simp only [go_sem] <;> rfl) (by simp only [go_sem] <;> rfl) ?_
          refine OpenK.skp (by simp only [go_sem] <;> rfl) (by simp only [go_sem] <;> rfl) (by simp only [go_sem] <;> rfl) ?_
          refine OpenK.op (by simp only [go_sem, hsa, ho, hg, hg2] <;> rfl) (by simp only [go_sem] <;> rfl) (by simp only [go_sem] <;> rfl) ?_
          refine OpenK.nil (OpenE.fin (by decide +kernel) (by decide +kernel) ?_)
          refine Exec.cndS (by simp only [go_sem, hsa, ho, hg, hg2] <;> rfl) (fun hb111 => ?_) (fun hb111 => ?_)
          · skip
            have hr : madeS w ⟨kd, a, b, c⟩ = none := by unfold madeS; rw [if_neg (by simp [hin])]; simp only [Int.toNat_natCast]; rw [if_neg hk0, if_pos hk, hp]
            refine Exec.assocS ?_
            refine Exec.reg ?_
            iterate 3 (refine Run.op (by simp only [go_sem, hsa, ho, hg, hg2, madeV, hr] <;> rfl) (by simp only [go_sem] <;> rfl) ?_)
            refine Run.nil ?_
            refine Exec.retS ?_
            refine BlkK.ret ?_
            exact Ends.fin [] (rs := [.cell 4 25, .tmp 5]) rfl (by simp only [go_sem, hsa, ho, hg, hg2, madeV, hr] <;> rfl) (by simp only [go_sem, hsa, ho, hg, hg2, madeV, hr] <;> first | rfl | ((repeat' (first | with_reducible_and_instances rfl | refine st_eq ?_ ?_ ?_ | refine ret_eq ?_ | refine tup_eq ?_ | refine tm_eq ?_ ?_ | refine arr_eq ?_ | refine cells_eq ?_ | refine val_eq ?_ | refine ls_eq ?_ ?_ | refine own_eq ?_ ?_ | refine sl_eq ?_ | refine b_eq ?_ | (refine i_eq ?_; omega))); done))
          · exact absurd hb111 (by simp)
      · skip
        have hk1 : ¬ kd = 1 := by simpa using hb97
        refine Exec.reg ?_
        iterate 2 (refine Run.op (by simp only [go_sem, hsa] <;> rfl) (by simp only [go_sem] <;> rfl) ?_)
        refine Run.nil ?_
        refine Exec.cnd (by simp only [go_sem, hsa] <;> rfl) (fun hb129 => ?_) (fun hb129 => ?_)
        · skip
          have hk : kd = 2 := by simpa using hb129
          refine Exec.reg ?_
          iterate 4 (refine Run.op (by simp only [go_sem, hsa] <;> rfl) (by simp only [go_sem] <;> rfl) ?_)
          refine Run.op (by simp only [go_sem, hsa]; (try simp (disch := omega) only [IntWalk.i64_in, IntWalk.u64_in, if_neg, if_pos])<;> rfl) (by simp only [go_sem] <;> rfl) ?_
          refine Run.op (by simp only [go_sem, hsa] <;> rfl) (by simp only [go_sem] <;> rfl) ?_
          refine Run.nil ?_
          refine Exec.assocS ?_
          by_cases hp : ∃ p, befS w a = some p
          · skip
            obtain ⟨p, hp⟩ := hp
            have hpl := befS_lt hp
            have hsp := rd_get hpl
            have ho : optI (befS w a) = (p : Int) := by rw [hp]; rfl
            have hg : decide ((p : Int) < 0) = false := by simp
            have hg2 : decide ((p : Int) ≥ 0) = true := by simp
            
            refine Exec.reg ?_
            iterate 2 (refine Run.op (by simp only [go_sem, hsa, ho, hsp, hg, hg2] <;> rfl) (by simp only [go_sem] <;> rfl) ?_)
            refine Run.cal (c_meterworksref12_in _ _ _) (by simp only [go_sem]) (by simp only [go_sem, hsa, ho, hsp, hg, hg2] <;> rfl) (by exact ⟨by first | exact WkR.pure rfl | exact WkR.nil _ | exact WkR.int (by first | omega | (simp; done) | (simp; omega)), by first | exact WkR.pure rfl | exact WkR.nil _ | exact WkR.int (by first | omega | (simp; done) | (simp; omega)), by first | exact WkR.pure rfl | exact WkR.nil _ | exact WkR.int (by first | omega | (simp; done) | (simp; omega)), trivial⟩) (fr0) (by simp only [go_sem, hsa, ho, hsp, hg, hg2] <;> rfl) ?_
            iterate 2 (refine Run.op (by simp only [go_sem, hsa, ho, hsp, hg, hg2] <;> rfl) (by simp only [go_sem] <;> rfl) ?_)
            refine Run.gop (by simp only [go_sem] <;> rfl) (by simp only [go_sem, hsa, ho, hsp, hg, hg2] <;> rfl) (by simp only [go_sem] <;> rfl) ?_
            refine Run.gop (by simp only [go_sem] <;> rfl) (by simp only [go_sem, hsa, ho, hsp, hg, hg2] <;> rfl) (by simp only [go_sem] <;> rfl) ?_
            iterate 2 (refine Run.op (by simp only [go_sem, hsa, ho, hsp, hg, hg2] <;> rfl) (by simp only [go_sem] <;> rfl) ?_)
            refine Run.gop (by simp only [go_sem] <;> rfl) (by simp only [go_sem, hsa, ho, hsp, hg, hg2] <;> rfl) (by simp only [go_sem] <;> rfl) ?_
            refine Run.gop (by simp only [go_sem] <;> rfl) (by simp only [go_sem, hsa, ho, hsp, hg, hg2] <;> rfl) (by simp only [go_sem] <;> rfl) ?_
            refine Run.gop (by simp only [go_sem] <;> rfl) (by simp only [go_sem, hsa, ho, hsp, hg, hg2] <;> rfl) (by simp only [go_sem] <;> rfl) ?_
            refine Run.gop (by simp only [go_sem] <;> rfl) (by simp only [go_sem, hsa, ho, hsp, hg, hg2] <;> rfl) (by simp only [go_sem] <;> rfl) ?_
            refine Run.gop (by simp only [go_sem] <;> rfl) (by simp only [go_sem, hsa, ho, hsp, hg, hg2] <;> rfl) (by simp only [go_sem] <;> rfl) ?_
            refine Run.gop (by simp only [go_sem] <;> rfl) (by simp only [go_sem, hsa, ho, hsp, hg, hg2] <;> rfl) (by simp only [go_sem] <;> rfl) ?_
            refine Run.gop (by simp only [go_sem] <;> rfl) (by simp only [go_sem, hsa, ho, hsp, hg, hg2] <;> rfl) (by simp only [go_sem] <;> rfl) ?_
            refine Run.gop (by simp only [go_sem] <;> rfl) (by simp only [go_sem, hsa, ho, hsp, hg, hg2]; (try simp (disch := omega) only [if_pos]); (try simp only [go_sem, hsa, ho, hsp, hg, hg2])<;> rfl) (by simp only [go_sem] <;> rfl) ?_
            refine Run.gop (by simp only [go_sem] <;> rfl) (by simp only [go_sem, hsa, ho, hsp, hg, hg2] <;> rfl) (by simp only [go_sem] <;> rfl) ?_
            refine Run.gop (by simp only [go_sem] <;> rfl) (by simp only [go_sem, hsa, ho, hsp, hg, hg2] <;> rfl) (by simp only [go_sem] <;> rfl) ?_
            refine Run.gop (by simp only [go_sem] <;> rfl) (by simp only [go_sem, hsa, ho, hsp, hg, hg2] <;> rfl) (by simp only [go_sem] <;> rfl) ?_
            refine Run.gop (by simp only [go_sem] <;> rfl) (by simp only [go_sem, hsa, ho, hsp, hg, hg2] <;> rfl) (by simp only [go_sem] <;> rfl) ?_
            refine Run.op (by simp only [go_sem, hsa, ho, hsp, hg, hg2] <;> rfl) (by simp only [go_sem] <;> rfl) ?_
            refine Run.nil ?_
            refine Exec.cndS (by simp only [go_sem, hsa, ho, hsp, hg, hg2] <;> rfl) (fun hb157 => ?_) (fun hb157 => ?_)
            · skip
              have hr : madeS w ⟨kd, a, b, c⟩ = none := by unfold madeS; rw [if_neg (by simp [hin])]; simp only [Int.toNat_natCast]; rw [if_neg hk0, if_neg hk1, if_pos hk, if_neg]; rintro ⟨q1, q2, q3⟩; have := q3 p hp; revert hb157; simp [q1]; omega
              refine Exec.assocS ?_
              refine Exec.reg ?_
              iterate 3 (refine Run.op (by simp only [go_sem, hsa, ho, hsp, hg, hg2, madeV, hr] <;> rfl) (by simp only [go_sem] <;> rfl) ?_)
              refine Run.nil ?_
              refine Exec.retS ?_
              refine BlkK.ret ?_
              exact Ends.fin [] (rs := [.cell 4 25, .tmp 5]) rfl (by simp only [go_sem, hsa, ho, hsp, hg, hg2, madeV, hr] <;> rfl) (by simp only [go_sem, hsa, ho, hsp, hg, hg2, madeV, hr] <;> first | rfl | ((repeat' (first | with_reducible_and_instances rfl | refine st_eq ?_ ?_ ?_ | refine ret_eq ?_ | refine tup_eq ?_ | refine tm_eq ?_ ?_ | refine arr_eq ?_ | refine cells_eq ?_ | refine val_eq ?_ | refine ls_eq ?_ ?_ | refine own_eq ?_ ?_ | refine sl_eq ?_ | refine b_eq ?_ | (refine i_eq ?_; omega))); done))
            · skip
              have hr : madeS w ⟨kd, a, b, c⟩ = some ⟨w.rates, w.readings.set a { rd w a with day := (rd w a).day - b }⟩ := by unfold madeS; rw [if_neg (by simp [hin])]; simp only [Int.toNat_natCast]; rw [if_neg hk0, if_neg hk1, if_pos hk, if_pos]; have h0 := hb157; simp only [Bool.or_eq_false_iff, Bool.not_eq_false', decide_eq_false_iff_not] at h0; exact ⟨by simpa using h0.1.1, by omega, fun q hq => by rw [hp] at hq; cases hq; omega⟩
              refine Exec.skipS ?_
              refine Exec.reg ?_
              iterate 5 (refine Run.op (by simp only [go_sem, hsa, ho, hsp, hg, hg2, madeV, hr] <;> rfl) (by simp only [go_sem] <;> rfl) ?_)
              refine Run.op (by simp only [go_sem, hsa, ho, hsp, hg, hg2, madeV, hr]; (try simp (disch := omega) only [if_pos]); (try simp only [go_sem, hsa, ho, hsp, hg, hg2, madeV, hr])<;> rfl) (by simp only [go_sem] <;> rfl) ?_
              iterate 2 (refine Run.op (by simp only [go_sem, hsa, ho, hsp, hg, hg2, madeV, hr] <;> rfl) (by simp only [go_sem] <;> rfl) ?_)
              refine Run.nil ?_
              refine Exec.reg ?_
              refine Run.frz 12 (by simp only [go_sem] <;> rfl) ?_
              iterate 3 (refine Run.op (by simp only [go_sem, hsa, ho, hsp, hg, hg2, madeV, hr] <;> rfl) (by simp only [go_sem] <;> rfl) ?_)
              refine Run.nil ?_
              refine BlkK.ret ?_
              exact Ends.fin [] (rs := [.cell 4 25, .tmp 5]) rfl (by simp only [go_sem, hsa, ho, hsp, hg, hg2, madeV, hr] <;> rfl) (by simp only [go_sem, hsa, ho, hsp, hg, hg2, madeV, hr] <;> first | rfl | ((repeat' (first | with_reducible_and_instances rfl | refine st_eq ?_ ?_ ?_ | refine ret_eq ?_ | refine tup_eq ?_ | refine tm_eq ?_ ?_ | refine arr_eq ?_ | refine cells_eq ?_ | refine val_eq ?_ | refine ls_eq ?_ ?_ | refine own_eq ?_ ?_ | refine sl_eq ?_ | refine b_eq ?_ | (refine i_eq ?_; omega))); (refine Eq.trans ?_ (List.take_of_length_le (by simp)).symm; simp [List.map_set, List.map_take, List.map_drop, encReading, show ((a : Int) + 1).toNat = a + 1 from by omega])))
          · skip
            have hp : befS w a = none := by
              cases h : befS w a with
              | none => rfl
              | some p => exact absurd ⟨p, h⟩ hp
            have ho : optI (befS w a) = -1 := by rw [hp]; rfl
            have hg : decide ((-1 : Int) < 0) = true := by decide
            have hg2 : decide ((-1 : Int) ≥ 0) = false := by decide
            refine Exec.reg ?_
            iterate 2 (refine Run.op (by simp only [go_sem, hsa, ho, hg, hg2] <;> rfl) (by simp only [go_sem] <;> rfl) ?_)
            refine Run.cal (c_meterworksref12_in _ _ _) (by simp only [go_sem]) (by simp only [go_sem, hsa, ho, hg, hg2] <;> rfl) (by exact ⟨by first | exact WkR.pure rfl | exact WkR.nil _ | exact WkR.int (by first | omega | (simp; done) | (simp; omega)), by first | exact WkR.pure rfl | exact WkR.nil _ | exact WkR.int (by first | omega | (simp; done) | (simp; omega)), by first | exact WkR.pure rfl | exact WkR.nil _ | exact WkR.int (by first | omega | (simp; done) | (simp; omega)), trivial⟩) (fr0) (by simp only [go_sem, hsa, ho, hg, hg2] <;> rfl) ?_
            iterate 2 (refine Run.op (by simp only [go_sem, hsa, ho, hg, hg2] <;> rfl) (by simp only [go_sem] <;> rfl) ?_)
            refine Run.gop (by simp only [go_sem] <;> rfl) (by simp only [go_sem, hsa, ho, hg, hg2] <;> rfl) (by simp only [go_sem] <;> rfl) ?_
            refine Run.gop (by simp only [go_sem] <;> rfl) (by simp only [go_sem, hsa, ho, hg, hg2] <;> rfl) (by simp only [go_sem] <;> rfl) ?_
            iterate 2 (refine Run.op (by simp only [go_sem, hsa, ho, hg, hg2] <;> rfl) (by simp only [go_sem] <;> rfl) ?_)
            refine Run.gop (by simp only [go_sem] <;> rfl) (by simp only [go_sem, hsa, ho, hg, hg2] <;> rfl) (by simp only [go_sem] <;> rfl) ?_
            refine Run.gop (by simp only [go_sem] <;> rfl) (by simp only [go_sem, hsa, ho, hg, hg2] <;> rfl) (by simp only [go_sem] <;> rfl) ?_
            refine Run.gop (by simp only [go_sem] <;> rfl) (by simp only [go_sem, hsa, ho, hg, hg2] <;> rfl) (by simp only [go_sem] <;> rfl) ?_
            refine Run.skp (by simp only [go_sem] <;> rfl) (by simp only [go_sem] <;> rfl) ?_
            refine Run.skp (by simp only [go_sem] <;> rfl) (by simp only [go_sem] <;> rfl) ?_
            refine Run.skp (by simp only [go_sem] <;> rfl) (by simp only [go_sem] <;> rfl) ?_
            refine Run.skp (by simp only [go_sem] <;> rfl) (by simp only [go_sem] <;> rfl) ?_
            refine Run.skp (by simp only [go_sem] <;> rfl) (by simp only [go_sem] <;> rfl) ?_
            refine Run.skp (by simp only [go_sem] <;> rfl) (by simp only [go_sem] <;> rfl) ?_
            refine Run.skp (by simp only [go_sem] <;> rfl) (by simp only [go_sem] <;> rfl) ?_
            refine Run.skp (by simp only [go_sem] <;> rfl) (by simp only [go_sem] <;> rfl) ?_
            refine Run.gop (by simp only [go_sem] <;> rfl) (by simp only [go_sem, hsa, ho, hg, hg2] <;> rfl) (by simp only [go_sem] <;> rfl) ?_
            refine Run.op (by simp only [go_sem, hsa, ho, hg, hg2] <;> rfl) (by simp only [go_sem] <;> rfl) ?_
            refine Run.nil ?_
            refine Exec.cndS (by simp only [go_sem, hsa, ho, hg, hg2] <;> rfl) (fun hb157 => ?_) (fun hb157 => ?_)
            · skip
              have hr : madeS w ⟨kd, a, b, c⟩ = none := by unfold madeS; rw [if_neg (by simp [hin])]; simp only [Int.toNat_natCast]; rw [if_neg hk0, if_neg hk1, if_pos hk, if_neg]; rintro ⟨q1, q2, q3⟩; revert hb157; simp [q1]; omega
              refine Exec.assocS ?_
              refine Exec.reg ?_
              iterate 3 (refine Run.op (by simp only [go_sem, hsa, ho, hg, hg2, madeV, hr] <;> rfl) (by simp only [go_sem] <;> rfl) ?_)
              refine Run.nil ?_
              refine Exec.retS ?_
              refine BlkK.ret ?_
              exact Ends.fin [] (rs := [.cell 4 25, .tmp 5]) rfl (by simp only [go_sem, hsa, ho, hg, hg2, madeV, hr] <;> rfl) (by simp only [go_sem, hsa, ho, hg, hg2, madeV, hr] <;> first | rfl | ((repeat' (first | with_reducible_and_instances rfl | refine st_eq ?_ ?_ ?_ | refine ret_eq ?_ | refine tup_eq ?_ | refine tm_eq ?_ ?_ | refine arr_eq ?_ | refine cells_eq ?_ | refine val_eq ?_ | refine ls_eq ?_ ?_ | refine own_eq ?_ ?_ | refine sl_eq ?_ | refine b_eq ?_ | (refine i_eq ?_; omega))); done))
            · skip
              have hr : madeS w ⟨kd, a, b, c⟩ = some ⟨w.rates, w.readings.set a { rd w a with day := (rd w a).day - b }⟩ := by unfold madeS; rw [if_neg (by simp [hin])]; simp only [Int.toNat_natCast]; rw [if_neg hk0, if_neg hk1, if_pos hk, if_pos]; have h0 := hb157; simp only [Bool.or_eq_false_iff, Bool.not_eq_false', decide_eq_false_iff_not] at h0; exact ⟨by simpa using h0.1, by omega, fun q hq => by rw [hp] at hq; cases hq⟩
              refine Exec.skipS ?_
              refine Exec.reg ?_
              iterate 5 (refine Run.op (by simp only [go_sem, hsa, ho, hg, hg2, madeV, hr] <;> rfl) (by simp only [go_sem] <;> rfl) ?_)
              refine Run.op (by simp only [go_sem, hsa, ho, hg, hg2, madeV, hr]; (try simp (disch := omega) only [if_pos]); (try simp only [go_sem, hsa, ho, hg, hg2, madeV, hr])<;> rfl) (by simp only [go_sem] <;> rfl) ?_
              iterate 2 (refine Run.op (by simp only [go_sem, hsa, ho, hg, hg2, madeV, hr] <;> rfl) (by simp only [go_sem] <;> rfl) ?_)
              refine Run.nil ?_
              refine Exec.reg ?_
              refine Run.frz 12 (by simp only [go_sem] <;> rfl) ?_
              iterate 3 (refine Run.op (by simp only [go_sem, hsa, ho, hg, hg2, madeV, hr] <;> rfl) (by simp only [go_sem] <;> rfl) ?_)
              refine Run.nil ?_
              refine BlkK.ret ?_
              exact Ends.fin [] (rs := [.cell 4 25, .tmp 5]) rfl (by simp only [go_sem, hsa, ho, hg, hg2, madeV, hr] <;> rfl) (by simp only [go_sem, hsa, ho, hg, hg2, madeV, hr] <;> first | rfl | ((repeat' (first | with_reducible_and_instances rfl | refine st_eq ?_ ?_ ?_ | refine ret_eq ?_ | refine tup_eq ?_ | refine tm_eq ?_ ?_ | refine arr_eq ?_ | refine cells_eq ?_ | refine val_eq ?_ | refine ls_eq ?_ ?_ | refine own_eq ?_ ?_ | refine sl_eq ?_ | refine b_eq ?_ | (refine i_eq ?_; omega))); (refine Eq.trans ?_ (List.take_of_length_le (by simp)).symm; simp [List.map_set, List.map_take, List.map_drop, encReading, show ((a : Int) + 1).toNat = a + 1 from by omega])))
        · skip
          have hk2 : ¬ kd = 2 := by simpa using hb129
          have hr : madeS w ⟨kd, a, b, c⟩ = none := by unfold madeS; rw [if_neg (by simp [hin])]; simp only [Int.toNat_natCast]; rw [if_neg hk0, if_neg hk1, if_neg hk2]
          refine BlkK.nrm ?_
          refine Exec.reg ?_
          iterate 3 (refine Run.op (by simp only [go_sem, hsa, madeV, hr] <;> rfl) (by simp only [go_sem] <;> rfl) ?_)
          refine Run.nil ?_
          exact Ends.fin [] (rs := [.cell 4 25, .tmp 5]) rfl (by simp only [go_sem, hsa, madeV, hr] <;> rfl) (by simp only [go_sem, hsa, madeV, hr] <;> first | rfl | ((repeat' (first | with_reducible_and_instances rfl | refine st_eq ?_ ?_ ?_ | refine ret_eq ?_ | refine tup_eq ?_ | refine tm_eq ?_ ?_ | refine arr_eq ?_ | refine cells_eq ?_ | refine val_eq ?_ | refine ls_eq ?_ ?_ | refine own_eq ?_ ?_ | refine sl_eq ?_ | refine b_eq ?_ | (refine i_eq ?_; omega))); done))

end Go.Mw
namespace Go.Mw
open Go.Proofs
set_option maxRecDepth 20000 in
/-- meterworks/meterworksref12.works -/
theorem c_meterworksref12_works (w : Walk) (x : Repair) (h1 : w.rates.length ≤ 1000) (h2 : w.readings.length ≤ 1000) (hw : walkB w = true) (hxb : -1000 ≤ x.b ∧ x.b ≤ 1000) : Contract Try.prog 61 [walkV w, repairV x] (.bool (worksS w x)) [] := by
  rcases hm : madeS w x with _ | m
  · skip
    have hr : worksS w x = false := by rw [worksS, hm]
    refine con_of follows_mixed Try.func61 rfl (by simp only [List.length_cons, List.length_nil, Try.ntmps61]; omega) (by kernel_rfl) rfl ?_
    refine Exec.reg ?_
    iterate 3 (refine Run.op (by simp only [go_sem, madeV, hm, hr] <;> rfl) (by simp only [go_sem] <;> rfl) ?_)
    refine Run.nil ?_
    refine Exec.reg ?_
    iterate 2 (refine Run.op (by simp only [go_sem, madeV, hm, hr] <;> rfl) (by simp only [go_sem] <;> rfl) ?_)
    refine Run.cal (c_meterworksref12_Made w x h1 h2 hw hxb) (by simp only [go_sem]) (by simp only [go_sem, madeV, hm, hr] <;> rfl) (by exact ⟨by first | exact WkR.pure rfl | exact WkR.nil _ | exact WkR.int (by first | omega | (simp; done) | (simp; omega)), by first | exact WkR.pure rfl | exact WkR.nil _ | exact WkR.int (by first | omega | (simp; done) | (simp; omega)), trivial⟩) (fr0) (by simp only [go_sem, madeV, hm, hr] <;> rfl) ?_
    iterate 6 (refine Run.op (by simp only [go_sem, madeV, hm, hr] <;> rfl) (by simp only [go_sem] <;> rfl) ?_)
    refine Run.nil ?_
    refine Exec.reg ?_
    iterate 2 (refine Run.op (by simp only [go_sem, madeV, hm, hr] <;> rfl) (by simp only [go_sem] <;> rfl) ?_)
    refine Run.skp (by simp only [go_sem] <;> rfl) (by simp only [go_sem] <;> rfl) ?_
    refine Run.skp (by simp only [go_sem] <;> rfl) (by simp only [go_sem] <;> rfl) ?_
    iterate 2 (refine Run.op (by simp only [go_sem, madeV, hm, hr] <;> rfl) (by simp only [go_sem] <;> rfl) ?_)
    refine Run.nil ?_
    exact Ends.fin [] (rs := [.tmp 4]) rfl (by simp only [go_sem, madeV, hm, hr] <;> rfl) (by simp only [go_sem, madeV, hm, hr] <;> first | rfl | ((repeat' (first | with_reducible_and_instances rfl | refine st_eq ?_ ?_ ?_ | refine ret_eq ?_ | refine tup_eq ?_ | refine tm_eq ?_ ?_ | refine arr_eq ?_ | refine cells_eq ?_ | refine val_eq ?_ | refine ls_eq ?_ ?_ | refine own_eq ?_ ?_ | refine sl_eq ?_ | refine b_eq ?_ | (refine i_eq ?_; omega))); done))
  · skip
    obtain ⟨hok, hrt, hle⟩ := made_ok hw hm
    have hr : worksS w x = fitsS m := by rw [worksS, hm]
    refine con_of follows_mixed Try.func61 rfl (by simp only [List.length_cons, List.length_nil, Try.ntmps61]; omega) (by kernel_rfl) rfl ?_
    refine Exec.reg ?_
    iterate 3 (refine Run.op (by simp only [go_sem, madeV, hm, hr] <;> rfl) (by simp only [go_sem] <;> rfl) ?_)
    refine Run.nil ?_
    refine Exec.reg ?_
    iterate 2 (refine Run.op (by simp only [go_sem, madeV, hm, hr] <;> rfl) (by simp only [go_sem] <;> rfl) ?_)
    refine Run.cal (c_meterworksref12_Made w x h1 h2 hw hxb) (by simp only [go_sem]) (by simp only [go_sem, madeV, hm, hr] <;> rfl) (by exact ⟨by first | exact WkR.pure rfl | exact WkR.nil _ | exact WkR.int (by first | omega | (simp; done) | (simp; omega)), by first | exact WkR.pure rfl | exact WkR.nil _ | exact WkR.int (by first | omega | (simp; done) | (simp; omega)), trivial⟩) (fr0) (by simp only [go_sem, madeV, hm, hr] <;> rfl) ?_
    iterate 6 (refine Run.op (by simp only [go_sem, madeV, hm, hr] <;> rfl) (by simp only [go_sem] <;> rfl) ?_)
    refine Run.nil ?_
    refine Exec.reg ?_
    iterate 2 (refine Run.op (by simp only [go_sem, madeV, hm, hr] <;> rfl) (by simp only [go_sem] <;> rfl) ?_)
    refine Run.yes (by simp only [go_sem] <;> rfl) (by simp only [go_sem, madeV, hm, hr] <;> rfl) (by simp only [go_sem] <;> rfl) ?_
    refine Run.calw (by simp only [go_sem] <;> rfl) (c_meterworksref12_Fits m (by rw [hrt]; exact h1) (by omega) hok) (by simp only [go_sem]) (by simp only [go_sem, madeV, hm, hr] <;> rfl) (by simp only [go_sem, madeV, hm, hr] <;> rfl) (by exact ⟨by first | exact WkR.pure rfl | exact WkR.nil _ | exact WkR.int (by first | omega | (simp; done) | (simp; omega)), trivial⟩) (fr0) (by simp only [go_sem, madeV, hm, hr] <;> rfl) ?_
    iterate 2 (refine Run.op (by simp only [go_sem, madeV, hm, hr] <;> rfl) (by simp only [go_sem] <;> rfl) ?_)
    refine Run.nil ?_
    exact Ends.fin [] (rs := [.tmp 4]) rfl (by simp only [go_sem, madeV, hm, hr] <;> rfl) (by simp only [go_sem, madeV, hm, hr] <;> first | rfl | ((repeat' (first | with_reducible_and_instances rfl | refine st_eq ?_ ?_ ?_ | refine ret_eq ?_ | refine tup_eq ?_ | refine tm_eq ?_ ?_ | refine arr_eq ?_ | refine cells_eq ?_ | refine val_eq ?_ | refine ls_eq ?_ ?_ | refine own_eq ?_ ?_ | refine sl_eq ?_ | refine b_eq ?_ | (refine i_eq ?_; omega))); done))

set_option maxRecDepth 20000 in
set_option maxHeartbeats 4000000 in
/-- meterworks/meterworksref12.all -/
theorem c_meterworksref12_all (w : Walk) (h1 : w.rates.length ≤ 1000) (h2 : w.readings.length ≤ 1000) (hw : walkB w = true) : Contract Try.prog 45 [walkV w] (.leaf (.d (repsD (allS w)))) [] := by
  have hn := (walk_len hw).2.2
  have bn := len_swN hn w.readings.length
  have bc := len_cpN w w.readings.length
  refine con_of follows_mixed Try.func45 rfl (by simp only [List.length_cons, List.length_nil, Try.ntmps45]; omega) (by kernel_rfl) rfl ?_
  refine Exec.reg ?_
  iterate 2 (refine Run.op (by simp only [go_sem] <;> rfl) (by simp only [go_sem] <;> rfl) ?_)
  refine Run.nil ?_
  refine Exec.reg ?_
  refine Run.op (by simp only [go_sem] <;> rfl) (by simp only [go_sem] <;> rfl) ?_
  refine Run.nil ?_
  refine Exec.assocS ?_
  refine Exec.reg ?_
  refine Run.nilo 3 1000 52 4 (by simp only [go_sem] <;> rfl) (by simp only [go_sem] <;> rfl) (by omega) (by omega) (by simp only [go_sem] <;> rfl) ?_
  refine Run.op (by simp only [go_sem] <;> rfl) (by simp only [go_sem] <;> rfl) ?_
  refine Run.nil ?_
  refine Exec.blk ?_
  refine Exec.forA [1, 3, 4] [1, 1000] (w.readings.length) (fun k => [.slot 4 (.int k), .slot 3 (.leaf (.own 1000 0 (swN w k).length (swN w k).length)), .obj 1000 (.arr 52 4 ((swN w k).map encRepair))]) (fun _ => True) (fun k => by simp only [go_sem] <;> rfl) (by simp only [go_sem] <;> rfl) ?_ (fun k hk hX => ?_)
  · trivial
  · skip
    refine Exec.assocS ?_
    refine Exec.reg ?_
    iterate 5 (refine Run.op (by simp only [go_sem] <;> rfl) (by simp only [go_sem] <;> rfl) ?_)
    refine Run.nil ?_
    refine Exec.cndS (by simp only [go_sem] <;> rfl) (fun hb16 => ?_) (fun hb16 => ?_)
    · skip
      have hlt := lt_of_dec hb16
      have b1 := len_swN hn k
      refine Exec.skipS ?_
      refine Exec.blk ?_
      refine Exec.reg ?_
      refine Run.op (by simp only [go_sem] <;> rfl) (by simp only [go_sem] <;> rfl) ?_
      refine Run.op (by simp only [go_sem]; (try simp (disch := omega) only [IntWalk.i64_in, IntWalk.u64_in, if_neg, if_pos])<;> rfl) (by simp only [go_sem] <;> rfl) ?_
      refine Run.op (by simp only [go_sem] <;> rfl) (by simp only [go_sem] <;> rfl) ?_
      refine Run.nil ?_
      refine Exec.blk1 ?_
      refine Exec.forA [1, 3, 4, 5] [1, 1000] (w.readings.length) (fun j => [.slot 5 (.int ((k : Int) + 1 + j)), .slot 3 (.leaf (.own 1000 0 (swN w k ++ swB w k j).length (swN w k ++ swB w k j).length)), .obj 1000 (.arr 52 4 ((swN w k ++ swB w k j).map encRepair))]) (fun j => k + 1 + j ≤ w.readings.length) (fun j => by simp only [go_sem] <;> rfl) (by simp only [go_sem, swB_zero, List.append_nil, Int.natCast_zero, Int.add_zero, List.length_nil, Nat.add_zero] <;> rfl) ?_ (fun j hj Xj => ?_)
      · omega
      · skip
        refine Exec.assocS ?_
        refine Exec.reg ?_
        iterate 5 (refine Run.op (by simp only [go_sem] <;> rfl) (by simp only [go_sem] <;> rfl) ?_)
        refine Run.nil ?_
        refine Exec.cndS (by simp only [go_sem] <;> rfl) (fun hb25 => ?_) (fun hb25 => ?_)
        · skip
          have hj1 : k + 1 + j < w.readings.length := by have := of_decide_eq_true hb25; omega
          have b2 := len_swB w k j
          refine Exec.skipS ?_
          refine Exec.blk ?_
          refine Exec.reg ?_
          iterate 5 (refine Run.op (by simp only [go_sem] <;> rfl) (by simp only [go_sem] <;> rfl) ?_)
          refine Run.nil ?_
          refine Exec.reg ?_
          iterate 2 (refine Run.op (by simp only [go_sem] <;> rfl) (by simp only [go_sem] <;> rfl) ?_)
          refine Run.cal (c_meterworksref12_works w ⟨0, (k : Int), (k : Int) + 1 + (j : Int), 0⟩ h1 h2 hw (by simp only; omega)) (by simp only [go_sem]) (by simp only [go_sem] <;> rfl) (by exact ⟨by first | exact WkR.pure rfl | exact WkR.nil _ | exact WkR.int (by first | omega | (simp; done) | (simp; omega)), by first | exact WkR.pure rfl | exact WkR.nil _ | exact WkR.int (by first | omega | (simp; done) | (simp; omega)), trivial⟩) (fr0) (by simp only [go_sem] <;> rfl) ?_
          refine Run.nil ?_
          refine Exec.cnd (by simp only [go_sem] <;> rfl) (fun hb33 => ?_) (fun hb33 => ?_)
          · skip
            have e : swB w k (j + 1) = swB w k j ++ [⟨0, (k : Int), (k : Int) + 1 + (j : Int), 0⟩] := by rw [swB_succ, show (((k + 1 + j : Nat) : Int)) = (k : Int) + 1 + (j : Int) by omega, if_pos hb33]
            refine Exec.reg1 ?_
            iterate 3 (refine Run.op (by simp only [go_sem] <;> rfl) (by simp only [go_sem] <;> rfl) ?_)
            refine Run.op (by simp only [go_sem]; (try simp (disch := omega) only [if_pos]); (try simp only [go_sem]) <;> first | (refine ite_run ⟨by (try simp only [List.length_append, List.length_drop, List.length_take, List.length_map, List.length_cons, List.length_nil, List.length_replicate, List.length_set, List.length_range, Nat.zero_add]); omega, by (try simp only [List.length_append, List.length_drop, List.length_take, List.length_map, List.length_cons, List.length_nil, List.length_replicate, List.length_set, List.length_range, Nat.zero_add]); omega, by repeat (first | exact al_nil | assumption | refine al_app ?_ ?_ | refine al_drop ?_ | refine al_take ?_ | exact al_map (fun _ => rfl) | exact al_rep rfl | refine al_cons rfl ?_)⟩ ?_; simp only [go_sem] <;> rfl) | (refine ite_run ⟨by (try simp only [List.length_append, List.length_drop, List.length_take, List.length_map, List.length_cons, List.length_nil, List.length_replicate, List.length_set, List.length_range, Nat.zero_add]); omega, by repeat (first | exact al_nil | assumption | refine al_app ?_ ?_ | refine al_drop ?_ | refine al_take ?_ | exact al_map (fun _ => rfl) | exact al_rep rfl | refine al_cons rfl ?_)⟩ ?_; simp only [go_sem] <;> rfl) | rfl) (by simp only [go_sem] <;> rfl) ?_
            refine Run.op (by simp only [go_sem] <;> rfl) (by simp only [go_sem] <;> rfl) ?_
            refine Run.nil ?_
            refine BlkK.nrm ?_
            refine Exec.reg1 ?_
            refine Run.op (by simp only [go_sem] <;> rfl) (by simp only [go_sem] <;> rfl) ?_
            refine Run.op (by simp only [go_sem]; (try simp (disch := omega) only [IntWalk.i64_in, IntWalk.u64_in, if_neg, if_pos])<;> rfl) (by simp only [go_sem] <;> rfl) ?_
            refine Run.op (by simp only [go_sem] <;> rfl) (by simp only [go_sem] <;> rfl) ?_
            refine Run.nil ?_
            refine ForK.nxt ?_ ?_ ?_
            · omega
            · exact Ghost.kp [1, 3, 4, 5] [1, 1000] (by simp only [go_sem]; first | ((repeat' (first | with_reducible_and_instances rfl | refine st_eq ?_ ?_ ?_ | refine ret_eq ?_ | refine tup_eq ?_ | refine tm_eq ?_ ?_ | refine arr_eq ?_ | refine cells_eq ?_ | refine val_eq ?_ | refine ls_eq ?_ ?_ | refine own_eq ?_ ?_ | refine sl_eq ?_ | refine b_eq ?_ | (refine i_eq ?_; omega))); all_goals (simp [e, encRepair, Nat.add_assoc])) | rfl)
            · omega
          · skip
            have e : swB w k (j + 1) = swB w k j := by rw [swB_succ, show (((k + 1 + j : Nat) : Int)) = (k : Int) + 1 + (j : Int) by omega, if_neg (by simp [hb33]), List.append_nil]
            refine BlkK.nrm ?_
            refine Exec.reg1 ?_
            refine Run.op (by simp only [go_sem, e] <;> rfl) (by simp only [go_sem] <;> rfl) ?_
            refine Run.op (by simp only [go_sem, e]; (try simp (disch := omega) only [IntWalk.i64_in, IntWalk.u64_in, if_neg, if_pos])<;> rfl) (by simp only [go_sem] <;> rfl) ?_
            refine Run.op (by simp only [go_sem, e] <;> rfl) (by simp only [go_sem] <;> rfl) ?_
            refine Run.nil ?_
            refine ForK.nxt ?_ ?_ ?_
            · omega
            · exact Ghost.kp [1, 3, 4, 5] [1, 1000] (by simp only [go_sem, e]; first | ((repeat' (first | with_reducible_and_instances rfl | refine st_eq ?_ ?_ ?_ | refine ret_eq ?_ | refine tup_eq ?_ | refine tm_eq ?_ ?_ | refine arr_eq ?_ | refine cells_eq ?_ | refine val_eq ?_ | refine ls_eq ?_ ?_ | refine own_eq ?_ ?_ | refine sl_eq ?_ | refine b_eq ?_ | (refine i_eq ?_; omega))); done) | rfl)
            · omega
        · skip
          have hj2 : j = w.readings.length - (k + 1) := by have := of_decide_eq_false hb25; omega
          have e : swN w (k + 1) = swN w k ++ swB w k j := by rw [swN_succ, swA, hj2]
          refine Exec.exitS ?_
          refine ForK.ext ?_
          refine Blk1K.hit ?_
          refine BlkK.nrm ?_
          refine Exec.reg1 ?_
          refine Run.op (by simp only [go_sem, e] <;> rfl) (by simp only [go_sem] <;> rfl) ?_
          refine Run.op (by simp only [go_sem, e]; (try simp (disch := omega) only [IntWalk.i64_in, IntWalk.u64_in, if_neg, if_pos])<;> rfl) (by simp only [go_sem] <;> rfl) ?_
          refine Run.op (by simp only [go_sem, e] <;> rfl) (by simp only [go_sem] <;> rfl) ?_
          refine Run.nil ?_
          refine ForK.nxt ?_ ?_ ?_
          · omega
          · exact Ghost.kp [1, 3, 4] [1, 1000] (by simp only [go_sem, e]; first | ((repeat' (first | with_reducible_and_instances rfl | refine st_eq ?_ ?_ ?_ | refine ret_eq ?_ | refine tup_eq ?_ | refine tm_eq ?_ ?_ | refine arr_eq ?_ | refine cells_eq ?_ | refine val_eq ?_ | refine ls_eq ?_ ?_ | refine own_eq ?_ ?_ | refine sl_eq ?_ | refine b_eq ?_ | (refine i_eq ?_; omega))); done) | rfl)
          · trivial
    · skip
      have e : k = w.readings.length := by have := ge_of_dec hb16; omega
      refine Exec.exitS ?_
      refine ForK.ext ?_
      refine BlkK.hit ?_
      refine Exec.assocS ?_
      refine Exec.reg ?_
      refine Run.op (by simp only [go_sem] <;> rfl) (by simp only [go_sem] <;> rfl) ?_
      refine Run.nil ?_
      refine Exec.blk ?_
      refine Exec.forA [1, 3, 7] [1, 1000] (w.readings.length) (fun k => [.slot 7 (.int k), .slot 3 (.leaf (.own 1000 0 (swN w w.readings.length ++ cpN w k).length (swN w w.readings.length ++ cpN w k).length)), .obj 1000 (.arr 52 4 ((swN w w.readings.length ++ cpN w k).map encRepair))]) (fun _ => True) (fun k => by simp only [go_sem] <;> rfl) (by simp only [go_sem, cpN_zero, e, List.append_nil, Int.natCast_zero, Int.add_zero, List.length_nil, Nat.add_zero] <;> rfl) ?_ (fun k hk hX => ?_)
      · trivial
      · skip
        refine Exec.assocS ?_
        refine Exec.reg ?_
        iterate 5 (refine Run.op (by simp only [go_sem] <;> rfl) (by simp only [go_sem] <;> rfl) ?_)
        refine Run.nil ?_
        refine Exec.cndS (by simp only [go_sem] <;> rfl) (fun hb42 => ?_) (fun hb42 => ?_)
        · skip
          have hlt := lt_of_dec hb42
          have b1 := len_cpN w k
          refine Exec.skipS ?_
          refine Exec.blk ?_
          refine Exec.reg ?_
          iterate 4 (refine Run.op (by simp only [go_sem] <;> rfl) (by simp only [go_sem] <;> rfl) ?_)
          refine Run.nil ?_
          refine Exec.reg ?_
          iterate 2 (refine Run.op (by simp only [go_sem] <;> rfl) (by simp only [go_sem] <;> rfl) ?_)
          refine Run.cal (c_meterworksref12_works w ⟨1, (k : Int), 0, 0⟩ h1 h2 hw (by simp only; omega)) (by simp only [go_sem]) (by simp only [go_sem] <;> rfl) (by exact ⟨by first | exact WkR.pure rfl | exact WkR.nil _ | exact WkR.int (by first | omega | (simp; done) | (simp; omega)), by first | exact WkR.pure rfl | exact WkR.nil _ | exact WkR.int (by first | omega | (simp; done) | (simp; omega)), trivial⟩) (fr0) (by simp only [go_sem] <;> rfl) ?_
          refine Run.nil ?_
          refine Exec.cnd (by simp only [go_sem] <;> rfl) (fun hb49 => ?_) (fun hb49 => ?_)
          · skip
            have e : cpN w (k + 1) = cpN w k ++ [⟨1, (k : Int), 0, 0⟩] := by rw [cpN_succ, if_pos hb49]
            refine Exec.reg1 ?_
            iterate 3 (refine Run.op (by simp only [go_sem] <;> rfl) (by simp only [go_sem] <;> rfl) ?_)
            refine Run.op (by simp only [go_sem]; (try simp (disch := omega) only [if_pos]); (try simp only [go_sem]) <;> first | (refine ite_run ⟨by (try simp only [List.length_append, List.length_drop, List.length_take, List.length_map, List.length_cons, List.length_nil, List.length_replicate, List.length_set, List.length_range, Nat.zero_add]); omega, by (try simp only [List.length_append, List.length_drop, List.length_take, List.length_map, List.length_cons, List.length_nil, List.length_replicate, List.length_set, List.length_range, Nat.zero_add]); omega, by repeat (first | exact al_nil | assumption | refine al_app ?_ ?_ | refine al_drop ?_ | refine al_take ?_ | exact al_map (fun _ => rfl) | exact al_rep rfl | refine al_cons rfl ?_)⟩ ?_; simp only [go_sem] <;> rfl) | (refine ite_run ⟨by (try simp only [List.length_append, List.length_drop, List.length_take, List.length_map, List.length_cons, List.length_nil, List.length_replicate, List.length_set, List.length_range, Nat.zero_add]); omega, by repeat (first | exact al_nil | assumption | refine al_app ?_ ?_ | refine al_drop ?_ | refine al_take ?_ | exact al_map (fun _ => rfl) | exact al_rep rfl | refine al_cons rfl ?_)⟩ ?_; simp only [go_sem] <;> rfl) | rfl) (by simp only [go_sem] <;> rfl) ?_
            refine Run.op (by simp only [go_sem] <;> rfl) (by simp only [go_sem] <;> rfl) ?_
            refine Run.nil ?_
            refine BlkK.nrm ?_
            refine Exec.reg1 ?_
            refine Run.op (by simp only [go_sem] <;> rfl) (by simp only [go_sem] <;> rfl) ?_
            refine Run.op (by simp only [go_sem]; (try simp (disch := omega) only [IntWalk.i64_in, IntWalk.u64_in, if_neg, if_pos])<;> rfl) (by simp only [go_sem] <;> rfl) ?_
            refine Run.op (by simp only [go_sem] <;> rfl) (by simp only [go_sem] <;> rfl) ?_
            refine Run.nil ?_
            refine ForK.nxt ?_ ?_ ?_
            · omega
            · exact Ghost.kp [1, 3, 7] [1, 1000] (by simp only [go_sem]; first | ((repeat' (first | with_reducible_and_instances rfl | refine st_eq ?_ ?_ ?_ | refine ret_eq ?_ | refine tup_eq ?_ | refine tm_eq ?_ ?_ | refine arr_eq ?_ | refine cells_eq ?_ | refine val_eq ?_ | refine ls_eq ?_ ?_ | refine own_eq ?_ ?_ | refine sl_eq ?_ | refine b_eq ?_ | (refine i_eq ?_; omega))); all_goals (simp [e, encRepair, Nat.add_assoc])) | rfl)
            · trivial
          · skip
            have e : cpN w (k + 1) = cpN w k := by rw [cpN_succ, if_neg (by simp [hb49]), List.append_nil]
            refine BlkK.nrm ?_
            refine Exec.reg1 ?_
            refine Run.op (by simp only [go_sem, e] <;> rfl) (by simp only [go_sem] <;> rfl) ?_
            refine Run.op (by simp only [go_sem, e]; (try simp (disch := omega) only [IntWalk.i64_in, IntWalk.u64_in, if_neg, if_pos])<;> rfl) (by simp only [go_sem] <;> rfl) ?_
            refine Run.op (by simp only [go_sem, e] <;> rfl) (by simp only [go_sem] <;> rfl) ?_
            refine Run.nil ?_
            refine ForK.nxt ?_ ?_ ?_
            · omega
            · exact Ghost.kp [1, 3, 7] [1, 1000] (by simp only [go_sem, e]; first | ((repeat' (first | with_reducible_and_instances rfl | refine st_eq ?_ ?_ ?_ | refine ret_eq ?_ | refine tup_eq ?_ | refine tm_eq ?_ ?_ | refine arr_eq ?_ | refine cells_eq ?_ | refine val_eq ?_ | refine ls_eq ?_ ?_ | refine own_eq ?_ ?_ | refine sl_eq ?_ | refine b_eq ?_ | (refine i_eq ?_; omega))); done) | rfl)
            · trivial
        · skip
          have e : k = w.readings.length := by have := ge_of_dec hb42; omega
          refine Exec.exitS ?_
          refine ForK.ext ?_
          refine BlkK.hit ?_
          refine Exec.assocS ?_
          refine Exec.reg ?_
          refine Run.op (by simp only [go_sem] <;> rfl) (by simp only [go_sem] <;> rfl) ?_
          refine Run.nil ?_
          refine Exec.blk ?_
          refine Exec.forA [1, 3, 9] [1, 1000] (w.readings.length) (fun k => [.slot 9 (.int k), .slot 3 (.leaf (.own 1000 0 (swN w w.readings.length ++ cpN w w.readings.length ++ ltN w k).length (swN w w.readings.length ++ cpN w w.readings.length ++ ltN w k).length)), .obj 1000 (.arr 52 4 ((swN w w.readings.length ++ cpN w w.readings.length ++ ltN w k).map encRepair))]) (fun _ => True) (fun k => by simp only [go_sem] <;> rfl) (by simp only [go_sem, ltN_zero, e, List.append_nil, Int.natCast_zero, Int.add_zero, List.length_nil, Nat.add_zero] <;> rfl) ?_ (fun k hk hX => ?_)
          · trivial
          · skip
            refine Exec.assocS ?_
            refine Exec.reg ?_
            iterate 5 (refine Run.op (by simp only [go_sem] <;> rfl) (by simp only [go_sem] <;> rfl) ?_)
            refine Run.nil ?_
            refine Exec.cndS (by simp only [go_sem] <;> rfl) (fun hb58 => ?_) (fun hb58 => ?_)
            · skip
              have hlt := lt_of_dec hb58
              have b1 := len_ltN w k
              refine Exec.skipS ?_
              refine Exec.blk ?_
              refine Exec.reg ?_
              iterate 4 (refine Run.op (by simp only [go_sem] <;> rfl) (by simp only [go_sem] <;> rfl) ?_)
              refine Run.nil ?_
              refine Exec.assocS ?_
              refine Exec.reg ?_
              refine Run.op (by simp only [go_sem] <;> rfl) (by simp only [go_sem] <;> rfl) ?_
              refine Run.nil ?_
              refine Exec.blk ?_
              refine Exec.forA [1, 3, 9, 10, 11] [1, 10, 1000] (30) (fun d => [.slot 11 (.int (1 + (d : Int))), .obj 10 (.cells [.d (.i 2), .d (.i k), .d (.i (headI (ltD w k d))), .d (.i (lastI (ltD w k d)))])]) (fun _ => True) (fun d => by simp only [go_sem] <;> rfl) (by simp only [go_sem, ltD_zero, headI_nil, lastI_nil, List.append_nil, Int.natCast_zero, Int.add_zero, List.length_nil, Nat.add_zero] <;> rfl) ?_ (fun d hd Xd => ?_)
              · trivial
              · skip
                refine Exec.assocS ?_
                refine Exec.reg ?_
                iterate 2 (refine Run.op (by simp only [go_sem] <;> rfl) (by simp only [go_sem] <;> rfl) ?_)
                refine Run.nil ?_
                refine Exec.cndS (by simp only [go_sem] <;> rfl) (fun hb64 => ?_) (fun hb64 => ?_)
                · skip
                  have hd29 : d < 30 := by have := of_decide_eq_true hb64; omega
                  refine Exec.skipS ?_
                  refine Exec.blk ?_
                  refine Exec.reg ?_
                  iterate 4 (refine Run.op (by simp only [go_sem] <;> rfl) (by simp only [go_sem] <;> rfl) ?_)
                  refine Run.cal (c_meterworksref12_works w ⟨2, (k : Int), 1 + (d : Int), 0⟩ h1 h2 hw (by simp only; omega)) (by simp only [go_sem]) (by simp only [go_sem] <;> rfl) (by exact ⟨by first | exact WkR.pure rfl | exact WkR.nil _ | exact WkR.int (by first | omega | (simp; done) | (simp; omega)), by first | exact WkR.pure rfl | exact WkR.nil _ | exact WkR.int (by first | omega | (simp; done) | (simp; omega)), trivial⟩) (fr0) (by simp only [go_sem] <;> rfl) ?_
                  refine Run.nil ?_
                  refine Exec.cnd (by simp only [go_sem] <;> rfl) (fun hb71 => ?_) (fun hb71 => ?_)
                  · skip
                    have e : ltD w k (d + 1) = ltD w k d ++ [1 + d] := by rw [ltD_succ, show (((1 + d : Nat) : Int)) = 1 + (d : Int) by omega, if_pos hb71]
                    refine Exec.assocS ?_
                    refine Exec.reg ?_
                    iterate 3 (refine Run.op (by simp only [go_sem] <;> rfl) (by simp only [go_sem] <;> rfl) ?_)
                    refine Run.nil ?_
                    refine Exec.cndS (by simp only [go_sem] <;> rfl) (fun hb74 => ?_) (fun hb74 => ?_)
                    · skip
                      have h0 : ltD w k d = [] := headI_zero.1 (by simpa using hb74)
                      refine Exec.reg ?_
                      iterate 3 (refine Run.op (by simp only [go_sem] <;> rfl) (by simp only [go_sem] <;> rfl) ?_)
                      refine Run.nil ?_
                      refine Exec.reg1 ?_
                      iterate 3 (refine Run.op (by simp only [go_sem] <;> rfl) (by simp only [go_sem] <;> rfl) ?_)
                      refine Run.nil ?_
                      refine BlkK.nrm ?_
                      refine Exec.reg1 ?_
                      refine Run.op (by simp only [go_sem] <;> rfl) (by simp only [go_sem] <;> rfl) ?_
                      refine Run.op (by simp only [go_sem]; (try simp (disch := omega) only [IntWalk.i64_in, IntWalk.u64_in, if_neg, if_pos])<;> rfl) (by simp only [go_sem] <;> rfl) ?_
                      refine Run.op (by simp only [go_sem] <;> rfl) (by simp only [go_sem] <;> rfl) ?_
                      refine Run.nil ?_
                      refine ForK.nxt ?_ ?_ ?_
                      · omega
                      · exact Ghost.kp [1, 3, 9, 10, 11] [1, 10, 1000] (by simp only [go_sem]; first | ((repeat' (first | with_reducible_and_instances rfl | refine st_eq ?_ ?_ ?_ | refine ret_eq ?_ | refine tup_eq ?_ | refine tm_eq ?_ ?_ | refine arr_eq ?_ | refine cells_eq ?_ | refine val_eq ?_ | refine ls_eq ?_ ?_ | refine own_eq ?_ ?_ | refine sl_eq ?_ | refine b_eq ?_ | (refine i_eq ?_; omega))); all_goals (simp [e, h0, headI, lastI])) | rfl)
                      · trivial
                    · skip
                      have h0 : ¬ ltD w k d = [] := fun h => by rw [h] at hb74; simp [headI] at hb74
                      have e2 : headI (ltD w k (d + 1)) = headI (ltD w k d) := by rw [e, headI_snoc, if_neg (fun h => h0 h.2)]
                      have e3 : lastI (ltD w k (d + 1)) = 1 + (d : Int) := by rw [e, lastI_snoc]; omega
                      refine Exec.skipS ?_
                      refine Exec.reg1 ?_
                      iterate 3 (refine Run.op (by simp only [go_sem, e2, e3] <;> rfl) (by simp only [go_sem] <;> rfl) ?_)
                      refine Run.nil ?_
                      refine BlkK.nrm ?_
                      refine Exec.reg1 ?_
                      refine Run.op (by simp only [go_sem, e2, e3] <;> rfl) (by simp only [go_sem] <;> rfl) ?_
                      refine Run.op (by simp only [go_sem, e2, e3]; (try simp (disch := omega) only [IntWalk.i64_in, IntWalk.u64_in, if_neg, if_pos])<;> rfl) (by simp only [go_sem] <;> rfl) ?_
                      refine Run.op (by simp only [go_sem, e2, e3] <;> rfl) (by simp only [go_sem] <;> rfl) ?_
                      refine Run.nil ?_
                      refine ForK.nxt ?_ ?_ ?_
                      · omega
                      · exact Ghost.kp [1, 3, 9, 10, 11] [1, 10, 1000] (by simp only [go_sem, e2, e3]; first | ((repeat' (first | with_reducible_and_instances rfl | refine st_eq ?_ ?_ ?_ | refine ret_eq ?_ | refine tup_eq ?_ | refine tm_eq ?_ ?_ | refine arr_eq ?_ | refine cells_eq ?_ | refine val_eq ?_ | refine ls_eq ?_ ?_ | refine own_eq ?_ ?_ | refine sl_eq ?_ | refine b_eq ?_ | (refine i_eq ?_; omega))); done) | rfl)
                      · trivial
                  · skip
                    have e : ltD w k (d + 1) = ltD w k d := by rw [ltD_succ, show (((1 + d : Nat) : Int)) = 1 + (d : Int) by omega, if_neg (by simp [hb71]), List.append_nil]
                    refine BlkK.nrm ?_
                    refine Exec.reg1 ?_
                    refine Run.op (by simp only [go_sem, e] <;> rfl) (by simp only [go_sem] <;> rfl) ?_
                    refine Run.op (by simp only [go_sem, e]; (try simp (disch := omega) only [IntWalk.i64_in, IntWalk.u64_in, if_neg, if_pos])<;> rfl) (by simp only [go_sem] <;> rfl) ?_
                    refine Run.op (by simp only [go_sem, e] <;> rfl) (by simp only [go_sem] <;> rfl) ?_
                    refine Run.nil ?_
                    refine ForK.nxt ?_ ?_ ?_
                    · omega
                    · exact Ghost.kp [1, 3, 9, 10, 11] [1, 10, 1000] (by simp only [go_sem, e]; first | ((repeat' (first | with_reducible_and_instances rfl | refine st_eq ?_ ?_ ?_ | refine ret_eq ?_ | refine tup_eq ?_ | refine tm_eq ?_ ?_ | refine arr_eq ?_ | refine cells_eq ?_ | refine val_eq ?_ | refine ls_eq ?_ ?_ | refine own_eq ?_ ?_ | refine sl_eq ?_ | refine b_eq ?_ | (refine i_eq ?_; omega))); done) | rfl)
                    · trivial
                · skip
                  have hd30 : d = 30 := by have := of_decide_eq_false hb64; omega
                  refine Exec.exitS ?_
                  refine ForK.ext ?_
                  refine BlkK.hit ?_
                  refine Exec.reg ?_
                  iterate 3 (refine Run.op (by simp only [go_sem] <;> rfl) (by simp only [go_sem] <;> rfl) ?_)
                  refine Run.nil ?_
                  refine Exec.cnd (by simp only [go_sem] <;> rfl) (fun hb81 => ?_) (fun hb81 => ?_)
                  · skip
                    have e : ltN w (k + 1) = ltN w k ++ [⟨2, (k : Int), headI (ltD w k d), lastI (ltD w k d)⟩] := by rw [ltN_succ, ltA_eq, hd30, if_pos (by rw [← hd30]; simpa using hb81)]
                    refine Exec.reg1 ?_
                    iterate 3 (refine Run.op (by simp only [go_sem] <;> rfl) (by simp only [go_sem] <;> rfl) ?_)
                    refine Run.op (by simp only [go_sem]; (try simp (disch := omega) only [if_pos]); (try simp only [go_sem]) <;> first | (refine ite_run ⟨by (try simp only [List.length_append, List.length_drop, List.length_take, List.length_map, List.length_cons, List.length_nil, List.length_replicate, List.length_set, List.length_range, Nat.zero_add]); omega, by (try simp only [List.length_append, List.length_drop, List.length_take, List.length_map, List.length_cons, List.length_nil, List.length_replicate, List.length_set, List.length_range, Nat.zero_add]); omega, by repeat (first | exact al_nil | assumption | refine al_app ?_ ?_ | refine al_drop ?_ | refine al_take ?_ | exact al_map (fun _ => rfl) | exact al_rep rfl | refine al_cons rfl ?_)⟩ ?_; simp only [go_sem] <;> rfl) | (refine ite_run ⟨by (try simp only [List.length_append, List.length_drop, List.length_take, List.length_map, List.length_cons, List.length_nil, List.length_replicate, List.length_set, List.length_range, Nat.zero_add]); omega, by repeat (first | exact al_nil | assumption | refine al_app ?_ ?_ | refine al_drop ?_ | refine al_take ?_ | exact al_map (fun _ => rfl) | exact al_rep rfl | refine al_cons rfl ?_)⟩ ?_; simp only [go_sem] <;> rfl) | rfl) (by simp only [go_sem] <;> rfl) ?_
                    refine Run.op (by simp only [go_sem] <;> rfl) (by simp only [go_sem] <;> rfl) ?_
                    refine Run.nil ?_
                    refine BlkK.nrm ?_
                    refine Exec.reg1 ?_
                    refine Run.op (by simp only [go_sem] <;> rfl) (by simp only [go_sem] <;> rfl) ?_
                    refine Run.op (by simp only [go_sem]; (try simp (disch := omega) only [IntWalk.i64_in, IntWalk.u64_in, if_neg, if_pos])<;> rfl) (by simp only [go_sem] <;> rfl) ?_
                    refine Run.op (by simp only [go_sem] <;> rfl) (by simp only [go_sem] <;> rfl) ?_
                    refine Run.nil ?_
                    refine ForK.nxt ?_ ?_ ?_
                    · omega
                    · exact Ghost.kp [1, 3, 9] [1, 1000] (by simp only [go_sem]; first | ((repeat' (first | with_reducible_and_instances rfl | refine st_eq ?_ ?_ ?_ | refine ret_eq ?_ | refine tup_eq ?_ | refine tm_eq ?_ ?_ | refine arr_eq ?_ | refine cells_eq ?_ | refine val_eq ?_ | refine ls_eq ?_ ?_ | refine own_eq ?_ ?_ | refine sl_eq ?_ | refine b_eq ?_ | (refine i_eq ?_; omega))); all_goals (simp [e, encRepair, Nat.add_assoc])) | rfl)
                    · trivial
                  · skip
                    have e : ltN w (k + 1) = ltN w k := by rw [ltN_succ, ltA_eq, if_neg (by rw [← hd30]; simpa using hb81), List.append_nil]
                    refine BlkK.nrm ?_
                    refine Exec.reg1 ?_
                    refine Run.op (by simp only [go_sem, e] <;> rfl) (by simp only [go_sem] <;> rfl) ?_
                    refine Run.op (by simp only [go_sem, e]; (try simp (disch := omega) only [IntWalk.i64_in, IntWalk.u64_in, if_neg, if_pos])<;> rfl) (by simp only [go_sem] <;> rfl) ?_
                    refine Run.op (by simp only [go_sem, e] <;> rfl) (by simp only [go_sem] <;> rfl) ?_
                    refine Run.nil ?_
                    refine ForK.nxt ?_ ?_ ?_
                    · omega
                    · exact Ghost.kp [1, 3, 9] [1, 1000] (by simp only [go_sem, e]; first | ((repeat' (first | with_reducible_and_instances rfl | refine st_eq ?_ ?_ ?_ | refine ret_eq ?_ | refine tup_eq ?_ | refine tm_eq ?_ ?_ | refine arr_eq ?_ | refine cells_eq ?_ | refine val_eq ?_ | refine ls_eq ?_ ?_ | refine own_eq ?_ ?_ | refine sl_eq ?_ | refine b_eq ?_ | (refine i_eq ?_; omega))); done) | rfl)
                    · trivial
            · skip
              have e : k = w.readings.length := by have := ge_of_dec hb58; omega
              have hr : swN w w.readings.length ++ cpN w w.readings.length ++ ltN w k = allS w := by rw [e]; rfl
              refine Exec.exitS ?_
              refine ForK.ext ?_
              refine BlkK.hit ?_
              refine Exec.reg ?_
              refine Run.frz 1000 (by simp only [go_sem] <;> rfl) ?_
              iterate 2 (refine Run.op (by simp only [go_sem, hr] <;> rfl) (by simp only [go_sem] <;> rfl) ?_)
              refine Run.nil ?_
              exact Ends.fin [] (rs := [.tmp 2]) rfl (by simp only [go_sem, hr] <;> rfl) (by simp only [go_sem, hr] <;> first | rfl | ((repeat' (first | with_reducible_and_instances rfl | refine st_eq ?_ ?_ ?_ | refine ret_eq ?_ | refine tup_eq ?_ | refine tm_eq ?_ ?_ | refine arr_eq ?_ | refine cells_eq ?_ | refine val_eq ?_ | refine ls_eq ?_ ?_ | refine own_eq ?_ ?_ | refine sl_eq ?_ | refine b_eq ?_ | (refine i_eq ?_; omega))); (rw [← hr]; exact (List.take_of_length_le (by simp; omega)).symm)))

end Go.Mw

/- Contracts of the functions that the card reaches: plain ones. -/
import Derived.Test.YtfmdonllhchdpaaB4
set_option linter.unusedSimpArgs false
set_option linter.unusedVariables false
set_option linter.unusedSectionVars false
set_option linter.deprecated false
namespace Go.Mw
open Go.Proofs
set_option maxRecDepth 20000 in
/-- meterworks/meterworksref12.in -/
theorem c_meterworksref12_in (n l h : Int) : Contract Try.prog 41 [.int n, .int l, .int h] (.bool (inB n l h)) [] := by
  refine con_of follows_mixed Try.func41 rfl (by simp only [List.length_cons, List.length_nil, Try.ntmps41]; omega) (by kernel_rfl) rfl ?_
  refine Exec.reg ?_
  refine Run.op (by simp only [go_sem] <;> rfl) (by simp only [go_sem] <;> rfl) ?_
  refine Run.nil ?_
  refine Exec.reg ?_
  iterate 4 (refine Run.op (by simp only [go_sem] <;> rfl) (by simp only [go_sem] <;> rfl) ?_)
  refine Run.gop (by simp only [go_sem] <;> rfl) (by simp only [go_sem] <;> rfl) (by simp only [go_sem] <;> rfl) ?_
  refine Run.gop (by simp only [go_sem] <;> rfl) (by simp only [go_sem] <;> rfl) (by simp only [go_sem] <;> rfl) ?_
  refine Run.gop (by simp only [go_sem] <;> rfl) (by simp only [go_sem] <;> rfl) (by simp only [go_sem] <;> rfl) ?_
  iterate 2 (refine Run.op (by simp only [go_sem] <;> rfl) (by simp only [go_sem] <;> rfl) ?_)
  refine Run.nil ?_
  exact Ends.fin [] (rs := [.tmp 6]) rfl (by simp only [go_sem] <;> rfl) (by simp only [go_sem] <;> first | rfl | ((repeat' (first | with_reducible_and_instances rfl | refine st_eq ?_ ?_ ?_ | refine ret_eq ?_ | refine tup_eq ?_ | refine tm_eq ?_ ?_ | refine arr_eq ?_ | refine cells_eq ?_ | refine val_eq ?_ | refine ls_eq ?_ ?_ | refine own_eq ?_ ?_ | refine sl_eq ?_ | refine b_eq ?_ | (refine i_eq ?_; omega))); done))

set_option maxRecDepth 20000 in
/-- meterworks/card.within -/
theorem c_card_within (n l h : Int) : Contract Try.prog 36 [.int n, .int l, .int h] (.bool (inB n l h)) [] := by
  refine con_of follows_mixed Try.func36 rfl (by simp only [List.length_cons, List.length_nil, Try.ntmps36]; omega) (by kernel_rfl) rfl ?_
  refine Exec.reg ?_
  refine Run.op (by simp only [go_sem] <;> rfl) (by simp only [go_sem] <;> rfl) ?_
  refine Run.nil ?_
  refine Exec.reg ?_
  iterate 4 (refine Run.op (by simp only [go_sem] <;> rfl) (by simp only [go_sem] <;> rfl) ?_)
  refine Run.gop (by simp only [go_sem] <;> rfl) (by simp only [go_sem] <;> rfl) (by simp only [go_sem] <;> rfl) ?_
  refine Run.gop (by simp only [go_sem] <;> rfl) (by simp only [go_sem] <;> rfl) (by simp only [go_sem] <;> rfl) ?_
  refine Run.gop (by simp only [go_sem] <;> rfl) (by simp only [go_sem] <;> rfl) (by simp only [go_sem] <;> rfl) ?_
  iterate 2 (refine Run.op (by simp only [go_sem] <;> rfl) (by simp only [go_sem] <;> rfl) ?_)
  refine Run.nil ?_
  exact Ends.fin [] (rs := [.tmp 6]) rfl (by simp only [go_sem] <;> rfl) (by simp only [go_sem] <;> first | rfl | ((repeat' (first | with_reducible_and_instances rfl | refine st_eq ?_ ?_ ?_ | refine ret_eq ?_ | refine tup_eq ?_ | refine tm_eq ?_ ?_ | refine arr_eq ?_ | refine cells_eq ?_ | refine val_eq ?_ | refine ls_eq ?_ ?_ | refine own_eq ?_ ?_ | refine sl_eq ?_ | refine b_eq ?_ | (refine i_eq ?_; omega))); done))

set_option maxRecDepth 20000 in
/-- meterworks/meterworksref12.Walk -/
theorem c_meterworksref12_Walk (w : Walk) (h1 : w.rates.length ≤ 1000) (h2 : w.readings.length ≤ 1000) : Contract Try.prog 29 [walkV w] (.bool (walkB w)) [] := by
  refine con_of follows_mixed Try.func29 rfl (by simp only [List.length_cons, List.length_nil, Try.ntmps29]; omega) (by kernel_rfl) rfl ?_
  refine Exec.reg ?_
  iterate 2 (refine Run.op (by simp only [go_sem] <;> rfl) (by simp only [go_sem] <;> rfl) ?_)
  refine Run.nil ?_
  refine Exec.assocS ?_
  refine Exec.reg ?_
  refine Run.op (by simp only [go_sem] <;> rfl) (by simp only [go_sem] <;> rfl) ?_
  refine Run.nil ?_
  refine Exec.blk ?_
  refine Exec.forA [1, 3] [1] (w.rates.length) (fun k => [.slot 3 (.int k)]) (fun k => (w.rates.take k).all rateB = true) (fun k => by simp only [go_sem] <;> rfl) (by simp only [go_sem] <;> rfl) ?_ (fun k hk hX => ?_)
  · rfl
  · skip
    refine Exec.assocS ?_
    refine Exec.reg ?_
    iterate 5 (refine Run.op (by simp only [go_sem] <;> rfl) (by simp only [go_sem] <;> rfl) ?_)
    refine Run.nil ?_
    refine Exec.cndS (by simp only [go_sem] <;> rfl) (fun hb11 => ?_) (fun hb11 => ?_)
    · skip
      have hlt := lt_of_dec hb11
      have hs := rt_get hlt
      refine Exec.skipS ?_
      refine Exec.blk ?_
      refine Exec.reg ?_
      iterate 3 (refine Run.op (by simp only [go_sem, hs] <;> rfl) (by simp only [go_sem] <;> rfl) ?_)
      refine Run.op (by simp only [go_sem, hs]; (try simp (disch := omega) only [if_pos]); (try simp only [go_sem, hs])<;> rfl) (by simp only [go_sem] <;> rfl) ?_
      iterate 3 (refine Run.op (by simp only [go_sem, hs] <;> rfl) (by simp only [go_sem] <;> rfl) ?_)
      refine Run.nil ?_
      refine Exec.reg ?_
      iterate 4 (refine Run.op (by simp only [go_sem, hs] <;> rfl) (by simp only [go_sem] <;> rfl) ?_)
      refine Run.gop (by simp only [go_sem] <;> rfl) (by simp only [go_sem, hs] <;> rfl) (by simp only [go_sem] <;> rfl) ?_
      refine Run.gop (by simp only [go_sem] <;> rfl) (by simp only [go_sem, hs] <;> rfl) (by simp only [go_sem] <;> rfl) ?_
      refine Run.gop (by simp only [go_sem] <;> rfl) (by simp only [go_sem, hs] <;> rfl) (by simp only [go_sem] <;> rfl) ?_
      refine Run.gop (by simp only [go_sem] <;> rfl) (by simp only [go_sem, hs] <;> rfl) (by simp only [go_sem] <;> rfl) ?_
      refine Run.gop (by simp only [go_sem] <;> rfl) (by simp only [go_sem, hs] <;> rfl) (by simp only [go_sem] <;> rfl) ?_
      iterate 2 (refine Run.op (by simp only [go_sem, hs] <;> rfl) (by simp only [go_sem] <;> rfl) ?_)
      refine Run.gop (by simp only [go_sem] <;> rfl) (by simp only [go_sem, hs] <;> rfl) (by simp only [go_sem] <;> rfl) ?_
      refine Run.gop (by simp only [go_sem] <;> rfl) (by simp only [go_sem, hs] <;> rfl) (by simp only [go_sem] <;> rfl) ?_
      refine Run.gop (by simp only [go_sem] <;> rfl) (by simp only [go_sem, hs] <;> rfl) (by simp only [go_sem] <;> rfl) ?_
      refine Run.op (by simp only [go_sem, hs] <;> rfl) (by simp only [go_sem] <;> rfl) ?_
      refine Run.nil ?_
      refine Exec.cnd (by simp only [go_sem, hs] <;> rfl) (fun hb33 => ?_) (fun hb33 => ?_)
      · skip
        have hr : walkB w = false := by rw [walkB, all_stop hs (by simp [rateB, hb33])]; rfl
        refine Exec.reg ?_
        refine Run.op (by simp only [go_sem, hs, hr] <;> rfl) (by simp only [go_sem] <;> rfl) ?_
        refine Run.nil ?_
        refine BlkK.ret ?_
        refine ForK.ret ?_
        refine BlkK.ret ?_
        exact Ends.fin [] (rs := [.tmp 2]) rfl (by simp only [go_sem, hs, hr] <;> rfl) (by simp only [go_sem, hs, hr] <;> first | rfl | ((repeat' (first | with_reducible_and_instances rfl | refine st_eq ?_ ?_ ?_ | refine ret_eq ?_ | refine tup_eq ?_ | refine tm_eq ?_ ?_ | refine arr_eq ?_ | refine cells_eq ?_ | refine val_eq ?_ | refine ls_eq ?_ ?_ | refine own_eq ?_ ?_ | refine sl_eq ?_ | refine b_eq ?_ | (refine i_eq ?_; omega))); done))
      · skip
        refine BlkK.nrm ?_
        refine Exec.reg1 ?_
        refine Run.op (by simp only [go_sem, hs] <;> rfl) (by simp only [go_sem] <;> rfl) ?_
        refine Run.op (by simp only [go_sem, hs]; (try simp (disch := omega) only [IntWalk.i64_in, IntWalk.u64_in, if_neg, if_pos])<;> rfl) (by simp only [go_sem] <;> rfl) ?_
        refine Run.op (by simp only [go_sem, hs] <;> rfl) (by simp only [go_sem] <;> rfl) ?_
        refine Run.nil ?_
        refine ForK.nxt ?_ ?_ ?_
        · omega
        · exact Ghost.kp [1, 3] [1] (by simp only [go_sem, hs]; first | ((repeat' (first | with_reducible_and_instances rfl | refine st_eq ?_ ?_ ?_ | refine ret_eq ?_ | refine tup_eq ?_ | refine tm_eq ?_ ?_ | refine arr_eq ?_ | refine cells_eq ?_ | refine val_eq ?_ | refine ls_eq ?_ ?_ | refine own_eq ?_ ?_ | refine sl_eq ?_ | refine b_eq ?_ | (refine i_eq ?_; omega))); done) | rfl)
        · exact all_step hX hs (by simpa [rateB] using hb33)
    · skip
      have hr1 := all_done hX (ge_of_dec hb11)
      refine Exec.exitS ?_
      refine ForK.ext ?_
      refine BlkK.hit ?_
      refine Exec.assocS ?_
      refine Exec.reg ?_
      refine Run.op (by simp only [go_sem] <;> rfl) (by simp only [go_sem] <;> rfl) ?_
      refine Run.nil ?_
      refine Exec.blk ?_
      refine Exec.forA [1, 5] [1] (w.readings.length) (fun k => [.slot 5 (.int k)]) (fun k => (w.readings.take k).all (readB w.rates.length) = true) (fun k => by simp only [go_sem] <;> rfl) (by simp only [go_sem] <;> rfl) ?_ (fun k hk hX => ?_)
      · rfl
      · skip
        refine Exec.assocS ?_
        refine Exec.reg ?_
        iterate 5 (refine Run.op (by simp only [go_sem] <;> rfl) (by simp only [go_sem] <;> rfl) ?_)
        refine Run.nil ?_
        refine Exec.cndS (by simp only [go_sem] <;> rfl) (fun hb38 => ?_) (fun hb38 => ?_)
        · skip
          have hlt := lt_of_dec hb38
          have hs := rd_get hlt
          refine Exec.skipS ?_
          refine Exec.blk ?_
          refine Exec.reg ?_
          iterate 3 (refine Run.op (by simp only [go_sem, hs] <;> rfl) (by simp only [go_sem] <;> rfl) ?_)
          refine Run.op (by simp only [go_sem, hs]; (try simp (disch := omega) only [if_pos]); (try simp only [go_sem, hs])<;> rfl) (by simp only [go_sem] <;> rfl) ?_
          iterate 3 (refine Run.op (by simp only [go_sem, hs] <;> rfl) (by simp only [go_sem] <;> rfl) ?_)
          refine Run.nil ?_
          refine Exec.reg ?_
          iterate 5 (refine Run.op (by simp only [go_sem, hs] <;> rfl) (by simp only [go_sem] <;> rfl) ?_)
          refine Run.op (by simp only [go_sem, hs]; (try simp (disch := omega) only [IntWalk.i64_in, IntWalk.u64_in, if_neg, if_pos])<;> rfl) (by simp only [go_sem] <;> rfl) ?_
          refine Run.cal (c_meterworksref12_in _ _ _) (by simp only [go_sem]) (by simp only [go_sem, hs] <;> rfl) (by exact ⟨by first | exact WkR.pure rfl | exact WkR.nil _ | exact WkR.int (by first | omega | (simp; done) | (simp; omega)), by first | exact WkR.pure rfl | exact WkR.nil _ | exact WkR.int (by first | omega | (simp; done) | (simp; omega)), by first | exact WkR.pure rfl | exact WkR.nil _ | exact WkR.int (by first | omega | (simp; done) | (simp; omega)), trivial⟩) (fr0) (by simp only [go_sem, hs] <;> rfl) ?_
          iterate 2 (refine Run.op (by simp only [go_sem, hs] <;> rfl) (by simp only [go_sem] <;> rfl) ?_)
          refine Run.gop (by simp only [go_sem] <;> rfl) (by simp only [go_sem, hs] <;> rfl) (by simp only [go_sem] <;> rfl) ?_
          refine Run.gop (by simp only [go_sem] <;> rfl) (by simp only [go_sem, hs] <;> rfl) (by simp only [go_sem] <;> rfl) ?_
          refine Run.gcal (by simp only [go_sem] <;> rfl) (c_meterworksref12_in _ _ _) (by simp only [go_sem]) (by simp only [go_sem, hs] <;> rfl) (by exact ⟨by first | exact WkR.pure rfl | exact WkR.nil _ | exact WkR.int (by first | omega | (simp; done) | (simp; omega)), by first | exact WkR.pure rfl | exact WkR.nil _ | exact WkR.int (by first | omega | (simp; done) | (simp; omega)), by first | exact WkR.pure rfl | exact WkR.nil _ | exact WkR.int (by first | omega | (simp; done) | (simp; omega)), trivial⟩) (by simp only [go_sem, hs] <;> rfl) ?_
          refine Run.gop (by simp only [go_sem] <;> rfl) (by simp only [go_sem, hs] <;> rfl) (by simp only [go_sem] <;> rfl) ?_
          iterate 2 (refine Run.op (by simp only [go_sem, hs] <;> rfl) (by simp only [go_sem] <;> rfl) ?_)
          refine Run.gop (by simp only [go_sem] <;> rfl) (by simp only [go_sem, hs] <;> rfl) (by simp only [go_sem] <;> rfl) ?_
          refine Run.gop (by simp only [go_sem] <;> rfl) (by simp only [go_sem, hs] <;> rfl) (by simp only [go_sem] <;> rfl) ?_
          refine Run.gcal (by simp only [go_sem] <;> rfl) (c_meterworksref12_in _ _ _) (by simp only [go_sem]) (by simp only [go_sem, hs] <;> rfl) (by exact ⟨by first | exact WkR.pure rfl | exact WkR.nil _ | exact WkR.int (by first | omega | (simp; done) | (simp; omega)), by first | exact WkR.pure rfl | exact WkR.nil _ | exact WkR.int (by first | omega | (simp; done) | (simp; omega)), by first | exact WkR.pure rfl | exact WkR.nil _ | exact WkR.int (by first | omega | (simp; done) | (simp; omega)), trivial⟩) (by simp only [go_sem, hs] <;> rfl) ?_
          refine Run.gop (by simp only [go_sem] <;> rfl) (by simp only [go_sem, hs] <;> rfl) (by simp only [go_sem] <;> rfl) ?_
          refine Run.op (by simp only [go_sem, hs] <;> rfl) (by simp only [go_sem] <;> rfl) ?_
          refine Run.nil ?_
          refine Exec.cnd (by simp only [go_sem, hs] <;> rfl) (fun hb65 => ?_) (fun hb65 => ?_)
          · skip
            have hr : walkB w = false := by rw [walkB, hr1, all_stop hs (by revert hb65; cases h1 : inB (rd w k).house 0 (↑w.rates.length - 1) <;> cases h2 : inB (rd w k).day 0 131072 <;> cases h3 : inB (rd w k).shows 0 1073741824 <;> simp [readB, h1, h2, h3])]; rfl
            refine Exec.reg ?_
            refine Run.op (by simp only [go_sem, hs, hr] <;> rfl) (by simp only [go_sem] <;> rfl) ?_
            refine Run.nil ?_
            refine BlkK.ret ?_
            refine ForK.ret ?_
            refine BlkK.ret ?_
            exact Ends.fin [] (rs := [.tmp 2]) rfl (by simp only [go_sem, hs, hr] <;> rfl) (by simp only [go_sem, hs, hr] <;> first | rfl | ((repeat' (first | with_reducible_and_instances rfl | refine st_eq ?_ ?_ ?_ | refine ret_eq ?_ | refine tup_eq ?_ | refine tm_eq ?_ ?_ | refine arr_eq ?_ | refine cells_eq ?_ | refine val_eq ?_ | refine ls_eq ?_ ?_ | refine own_eq ?_ ?_ | refine sl_eq ?_ | refine b_eq ?_ | (refine i_eq ?_; omega))); done))
          · skip
            refine BlkK.nrm ?_
            refine Exec.reg1 ?_
            refine Run.op (by simp only [go_sem, hs] <;> rfl) (by simp only [go_sem] <;> rfl) ?_
            refine Run.op (by simp only [go_sem, hs]; (try simp (disch := omega) only [IntWalk.i64_in, IntWalk.u64_in, if_neg, if_pos])<;> rfl) (by simp only [go_sem] <;> rfl) ?_
            refine Run.op (by simp only [go_sem, hs] <;> rfl) (by simp only [go_sem] <;> rfl) ?_
            refine Run.nil ?_
            refine ForK.nxt ?_ ?_ ?_
            · omega
            · exact Ghost.kp [1, 5] [1] (by simp only [go_sem, hs]; first | ((repeat' (first | with_reducible_and_instances rfl | refine st_eq ?_ ?_ ?_ | refine ret_eq ?_ | refine tup_eq ?_ | refine tm_eq ?_ ?_ | refine arr_eq ?_ | refine cells_eq ?_ | refine val_eq ?_ | refine ls_eq ?_ ?_ | refine own_eq ?_ ?_ | refine sl_eq ?_ | refine b_eq ?_ | (refine i_eq ?_; omega))); done) | rfl)
            · exact all_step hX hs (by simpa [readB, and_assoc] using hb65)
        · skip
          have hr : walkB w = (inB w.rates.length 1 8 && decide ((w.readings.length : Int) ≤ 24)) := by rw [walkB, hr1, all_done hX (ge_of_dec hb38)]; simp
          refine Exec.exitS ?_
          refine ForK.ext ?_
          refine BlkK.hit ?_
          refine Exec.reg ?_
          iterate 3 (refine Run.op (by simp only [go_sem, hr] <;> rfl) (by simp only [go_sem] <;> rfl) ?_)
          refine Run.cal (c_meterworksref12_in _ _ _) (by simp only [go_sem]) (by simp only [go_sem, hr] <;> rfl) (by exact ⟨by first | exact WkR.pure rfl | exact WkR.nil _ | exact WkR.int (by first | omega | (simp; done) | (simp; omega)), by first | exact WkR.pure rfl | exact WkR.nil _ | exact WkR.int (by first | omega | (simp; done) | (simp; omega)), by first | exact WkR.pure rfl | exact WkR.nil _ | exact WkR.int (by first | omega | (simp; done) | (simp; omega)), trivial⟩) (fr0) (by simp only [go_sem, hr] <;> rfl) ?_
          refine Run.op (by simp only [go_sem, hr] <;> rfl) (by simp only [go_sem] <;> rfl) ?_
          refine Run.gop (by simp only [go_sem] <;> rfl) (by simp only [go_sem, hr] <;> rfl) (by simp only [go_sem] <;> rfl) ?_
          refine Run.gop (by simp only [go_sem] <;> rfl) (by simp only [go_sem, hr] <;> rfl) (by simp only [go_sem] <;> rfl) ?_
          refine Run.gop (by simp only [go_sem] <;> rfl) (by simp only [go_sem, hr] <;> rfl) (by simp only [go_sem] <;> rfl) ?_
          refine Run.gop (by simp only [go_sem] <;> rfl) (by simp only [go_sem, hr] <;> rfl) (by simp only [go_sem] <;> rfl) ?_
          iterate 2 (refine Run.op (by simp only [go_sem, hr] <;> rfl) (by simp only [go_sem] <;> rfl) ?_)
          refine Run.nil ?_
          exact Ends.fin [] (rs := [.tmp 2]) rfl (by simp only [go_sem, hr] <;> rfl) (by simp only [go_sem, hr] <;> first | rfl | ((repeat' (first | with_reducible_and_instances rfl | refine st_eq ?_ ?_ ?_ | refine ret_eq ?_ | refine tup_eq ?_ | refine tm_eq ?_ ?_ | refine arr_eq ?_ | refine cells_eq ?_ | refine val_eq ?_ | refine ls_eq ?_ ?_ | refine own_eq ?_ ?_ | refine sl_eq ?_ | refine b_eq ?_ | (refine i_eq ?_; omega))); done))

set_option maxRecDepth 20000 in
/-- meterworks/meterworksref12.two -/
theorem c_meterworksref12_two (s : Span) (a b : Reading) (hs : 0 ≤ s.lo ∧ s.lo ≤ s.hi ∧ s.hi ≤ 100000) (ha : 0 ≤ a.day ∧ a.day ≤ 131072 ∧ 0 ≤ a.shows ∧ a.shows ≤ 1073741824) (hb : 0 ≤ b.day ∧ b.day ≤ 131072 ∧ 0 ≤ b.shows ∧ b.shows ≤ 1073741824) : Contract Try.prog 54 [spanV s, readingV a, readingV b] (.bool (twoB s a b)) [] := by
  have e1 := IntWalk.i64_in (b.day - a.day) (by omega)
  have e2 := IntWalk.i64_in (b.shows - a.shows) (by omega)
  have e3 := i64_mul (a := s.lo) (b := b.day - a.day) (by omega) (by omega)
  have e4 := i64_mul (a := s.hi) (b := b.day - a.day) (by omega) (by omega)
  refine con_of follows_mixed Try.func54 rfl (by simp only [List.length_cons, List.length_nil, Try.ntmps54]; omega) (by kernel_rfl) rfl ?_
  refine Exec.reg ?_
  iterate 4 (refine Run.op (by simp only [go_sem, e1, e2, e3, e4] <;> rfl) (by simp only [go_sem] <;> rfl) ?_)
  refine Run.nil ?_
  refine Exec.opk 14 ?_
  refine OpenK.op (by simp only [go_sem, e1, e2, e3, e4] <;> rfl) (by simp only [go_sem] <;> rfl) (by simp only [go_sem] <;> rfl) ?_
  refine OpenK.op (by simp only [go_sem, e1, e2, e3, e4] <;> rfl) (by simp only [go_sem] <;> rfl) (by simp only [go_sem] <;> rfl) ?_
  refine OpenK.op (by simp only [go_sem, e1, e2, e3, e4] <;> rfl) (by simp only [go_sem] <;> rfl) (by simp only [go_sem] <;> rfl) ?_
  refine OpenK.op (by simp only [go_sem, e1, e2, e3, e4] <;> rfl) (by simp only [go_sem] <;> rfl) (by simp only [go_sem] <;> rfl) ?_
  refine OpenK.op (by simp only [go_sem, e1, e2, e3, e4]; (try simp (disch := omega) only [IntWalk.i64_in, IntWalk.u64_in, if_neg, if_pos])<;> rfl) (by simp only [go_sem] <;> rfl) (by simp only [go_sem] <;> rfl) ?_
  refine OpenK.op (by simp only [go_sem, e1, e2, e3, e4] <;> rfl) (by simp only [go_sem] <;> rfl) (by simp only [go_sem] <;> rfl) ?_
  refine OpenK.op (by simp only [go_sem, e1, e2, e3, e4] <;> rfl) (by simp only [go_sem] <;> rfl) (by simp only [go_sem] <;> rfl) ?_
  refine OpenK.op (by simp only [go_sem, e1, e2, e3, e4] <;> rfl) (by simp only [go_sem] <;> rfl) (by simp only [go_sem] <;> rfl) ?_
  refine OpenK.op (by simp only [go_sem, e1, e2, e3, e4] <;> rfl) (by simp only [go_sem] <;> rfl) (by simp only [go_sem] <;> rfl) ?_
  refine OpenK.op (by simp only [go_sem, e1, e2, e3, e4]; (try simp (disch := omega) only [IntWalk.i64_in, IntWalk.u64_in, if_neg, if_pos])<;> rfl) (by simp only [go_sem] <;> rfl) (by simp only [go_sem] <;> rfl) ?_
  refine OpenK.op (by simp only [go_sem, e1, e2, e3, e4] <;> rfl) (by simp only [go_sem] <;> rfl) (by simp only [go_sem] <;> rfl) ?_
  refine OpenK.op (by simp only [go_sem, e1, e2, e3, e4] <;> rfl) (by simp only [go_sem] <;> rfl) (by simp only [go_sem] <;> rfl) ?_
  refine OpenK.nil (OpenE.fin (by decide +kernel) (by decide +kernel) ?_)
  refine Exec.reg ?_
  iterate 4 (refine Run.op (by simp only [go_sem, e1, e2, e3, e4] <;> rfl) (by simp only [go_sem] <;> rfl) ?_)
  refine Run.op (by simp only [go_sem, e1, e2, e3, e4]; (try simp (disch := omega) only [IntWalk.i64_in, IntWalk.u64_in, if_neg, if_pos])<;> rfl) (by simp only [go_sem] <;> rfl) ?_
  iterate 2 (refine Run.op (by simp only [go_sem, e1, e2, e3, e4] <;> rfl) (by simp only [go_sem] <;> rfl) ?_)
  refine Run.gop (by simp only [go_sem] <;> rfl) (by simp only [go_sem, e1, e2, e3, e4] <;> rfl) (by simp only [go_sem] <;> rfl) ?_
  refine Run.gop (by simp only [go_sem] <;> rfl) (by simp only [go_sem, e1, e2, e3, e4] <;> rfl) (by simp only [go_sem] <;> rfl) ?_
  refine Run.gop (by simp only [go_sem] <;> rfl) (by simp only [go_sem, e1, e2, e3, e4] <;> rfl) (by simp only [go_sem] <;> rfl) ?_
  refine Run.gop (by simp only [go_sem] <;> rfl) (by simp only [go_sem, e1, e2, e3, e4] <;> rfl) (by simp only [go_sem] <;> rfl) ?_
  refine Run.gop (by simp only [go_sem] <;> rfl) (by simp only [go_sem, e1, e2, e3, e4]; (try simp (disch := omega) only [IntWalk.i64_in, IntWalk.u64_in, if_neg, if_pos])<;> rfl) (by simp only [go_sem] <;> rfl) ?_
  refine Run.gop (by simp only [go_sem] <;> rfl) (by simp only [go_sem, e1, e2, e3, e4] <;> rfl) (by simp only [go_sem] <;> rfl) ?_
  iterate 2 (refine Run.op (by simp only [go_sem, e1, e2, e3, e4] <;> rfl) (by simp only [go_sem] <;> rfl) ?_)
  refine Run.nil ?_
  exact Ends.fin [] (rs := [.tmp 6]) rfl (by simp only [go_sem, e1, e2, e3, e4] <;> rfl) (by simp only [go_sem, e1, e2, e3, e4] <;> first | rfl | ((repeat' (first | with_reducible_and_instances rfl | refine st_eq ?_ ?_ ?_ | refine ret_eq ?_ | refine tup_eq ?_ | refine tm_eq ?_ ?_ | refine arr_eq ?_ | refine cells_eq ?_ | refine val_eq ?_ | refine ls_eq ?_ ?_ | refine own_eq ?_ ?_ | refine sl_eq ?_ | refine b_eq ?_ | (refine i_eq ?_; omega))); done))

end Go.Mw
namespace Go.Mw
open Go.Proofs
set_option maxRecDepth 20000 in
/-- meterworks/meterworksref12.Of -/
theorem c_meterworksref12_Of (w : Walk) (house : Int) (h1 : w.rates.length ≤ 1000) (h2 : w.readings.length ≤ 1000) : Contract Try.prog 42 [walkV w, .int house] (.leaf (.d (natsD (ofS w house)))) [] := by
  refine con_of follows_mixed Try.func42 rfl (by simp only [List.length_cons, List.length_nil, Try.ntmps42]; omega) (by kernel_rfl) rfl ?_
  refine Exec.reg ?_
  iterate 2 (refine Run.op (by simp only [go_sem] <;> rfl) (by simp only [go_sem] <;> rfl) ?_)
  refine Run.nil ?_
  refine Exec.reg ?_
  refine Run.op (by simp only [go_sem] <;> rfl) (by simp only [go_sem] <;> rfl) ?_
  refine Run.nil ?_
  refine Exec.assocS ?_
  refine Exec.reg ?_
  refine Run.nild 5 1 (by simp only [go_sem] <;> rfl) (by simp only [go_sem] <;> rfl) ?_
  refine Run.op (by simp only [go_sem] <;> rfl) (by simp only [go_sem] <;> rfl) ?_
  refine Run.nil ?_
  refine Exec.blk ?_
  refine Exec.forA [1, 2, 5, 6] [2] (w.readings.length) (fun k => [.slot 6 (.int k), .slot 5 (.leaf (.d (natsD (ofN w house k))))]) (fun _ => True) (fun k => by simp only [go_sem] <;> rfl) (by simp only [go_sem] <;> rfl) ?_ (fun k hk hX => ?_)
  · trivial
  · skip
    refine Exec.assocS ?_
    refine Exec.reg ?_
    iterate 5 (refine Run.op (by simp only [go_sem] <;> rfl) (by simp only [go_sem] <;> rfl) ?_)
    refine Run.nil ?_
    refine Exec.cndS (by simp only [go_sem] <;> rfl) (fun hb12 => ?_) (fun hb12 => ?_)
    · skip
      have hlt := lt_of_dec hb12
      have hs := rd_get hlt
      have hol := len_ofN w house k
      refine Exec.skipS ?_
      refine Exec.blk ?_
      refine Exec.assocS ?_
      refine Exec.reg ?_
      iterate 3 (refine Run.op (by simp only [go_sem, hs] <;> rfl) (by simp only [go_sem] <;> rfl) ?_)
      refine Run.op (by simp only [go_sem, hs]; (try simp (disch := omega) only [if_pos]); (try simp only [go_sem, hs])<;> rfl) (by simp only [go_sem] <;> rfl) ?_
      iterate 4 (refine Run.op (by simp only [go_sem, hs] <;> rfl) (by simp only [go_sem] <;> rfl) ?_)
      refine Run.nil ?_
      refine Exec.cndS (by simp only [go_sem, hs] <;> rfl) (fun hb22 => ?_) (fun hb22 => ?_)
      · skip
        have e : ofN w house (k + 1) = ofN w house k := by rw [ofN, if_neg (by simpa using hb22)]
        refine Exec.exitS ?_
        refine BlkK.hit ?_
        refine Exec.reg1 ?_
        refine Run.op (by simp only [go_sem, hs, e] <;> rfl) (by simp only [go_sem] <;> rfl) ?_
        refine Run.op (by simp only [go_sem, hs, e]; (try simp (disch := omega) only [IntWalk.i64_in, IntWalk.u64_in, if_neg, if_pos])<;> rfl) (by simp only [go_sem] <;> rfl) ?_
        refine Run.op (by simp only [go_sem, hs, e] <;> rfl) (by simp only [go_sem] <;> rfl) ?_
        refine Run.nil ?_
        refine ForK.nxt ?_ ?_ ?_
        · omega
        · exact Ghost.kp [1, 2, 5, 6] [2] (by simp only [go_sem, hs, e]; first | ((repeat' (first | with_reducible_and_instances rfl | refine st_eq ?_ ?_ ?_ | refine ret_eq ?_ | refine tup_eq ?_ | refine tm_eq ?_ ?_ | refine arr_eq ?_ | refine cells_eq ?_ | refine val_eq ?_ | refine ls_eq ?_ ?_ | refine own_eq ?_ ?_ | refine sl_eq ?_ | refine b_eq ?_ | (refine i_eq ?_; omega))); done) | rfl)
        · trivial
      · skip
        have hh : (rd w k).house = house := by simpa using hb22
        refine Exec.skipS ?_
        refine Exec.reg ?_
        iterate 3 (refine Run.op (by simp only [go_sem, hs] <;> rfl) (by simp only [go_sem] <;> rfl) ?_)
        refine Run.nil ?_
        refine Exec.blk ?_
        refine Exec.forA [1, 2, 5, 6, 7] [2] ((ofN w house k).length) (fun j => [.slot 7 (.int (((ofN w house k).length : Int) - (j : Int)))]) (fun j => atS w k (ofN w house k) (ofN w house k).length = atS w k (ofN w house k) ((ofN w house k).length - j)) (fun j => by simp only [go_sem] <;> rfl) (by simp only [go_sem, Int.sub_zero, Int.natCast_zero] <;> rfl) ?_ (fun j hj Xj => ?_)
        · rfl
        · skip
          refine Exec.assocS ?_
          by_cases hjl : j < (ofN w house k).length
          · skip
            have hg : decide (((ofN w house k).length : Int) - (j : Int) > 0) = true := by simp; omega
            have hLj : (ofN w house k).length - j = ((ofN w house k).length - (j + 1)) + 1 := by omega
            obtain ⟨x, hx⟩ : ∃ x, (ofN w house k)[(ofN w house k).length - (j + 1)]? = some x := ⟨_, List.getElem?_eq_getElem (by omega)⟩
            have hget : (ofN w house k)[(ofN w house k).length - (j + 1)]?.getD 0 = x := by rw [hx]; rfl
            have hxl := (mem_ofN.1 (List.mem_of_getElem? hx)).1
            have hsx := rd_get (w := w) (i := x) (by omega)
            have htn : (((ofN w house k).length : Int) - (j : Int) - 1).toNat = (ofN w house k).length - (j + 1) := by omega
            refine Exec.opk 23 ?_
            refine OpenK.op (by simp only [go_sem, hs, hg, hx, hsx, htn] <;> rfl) (by simp only [go_sem] <;> rfl) (by simp only [go_sem] <;> rfl) ?_
            refine OpenK.op (by simp only [go_sem, hs, hg, hx, hsx, htn] <;> rfl) (by simp only [go_sem] <;> rfl) (by simp only [go_sem] <;> rfl) ?_
            refine OpenK.op (by simp only [go_sem, hs, hg, hx, hsx, htn] <;> rfl) (by simp only [go_sem] <;> rfl) (by simp only [go_sem] <;> rfl) ?_
            refine OpenK.yes (by simp only [go_sem] <;> rfl) (by simp only [go_sem, hs, hg, hx, hsx, htn] <;> rfl) (by simp only [go_sem] <;> rfl) (by simp only [go_sem] <;> rfl) ?_
            refine OpenK.yes (by simp only [go_sem] <;> rfl) (by simp only [go_sem, hs, hg, hx, hsx, htn] <;> rfl) (by simp only [go_sem] <;> rfl) (by simp only [go_sem] <;> rfl) ?_
            refine OpenK.yes (by simp only [go_sem] <;> rfl) (by simp only [go_sem, hs, hg, hx, hsx, htn] <;> rfl) (by simp only [go_sem] <;> rfl) (by simp only [go_sem] <;> rfl) ?_
            refine OpenK.yes (by simp only [go_sem] <;> rfl) (by simp only [go_sem, hs, hg, hx, hsx, htn] <;> rfl) (by simp only [go_sem] <;> rfl) (by simp only [go_sem] <;> rfl) ?_
            refine OpenK.yes (by simp only [go_sem] <;> rfl) (by simp only [go_sem, hs, hg, hx, hsx, htn]; (try simp (disch := omega) only [IntWalk.i64_in, IntWalk.u64_in, if_neg, if_pos])<;> rfl) (by simp only [go_sem] <;> rfl) (by simp only [go_sem] <;> rfl) ?_
            refine OpenK.yes (by simp only [go_sem] <;> rfl) (by simp only [go_sem, hs, hg, hx, hsx, htn]; (try simp (disch := omega) only [if_pos]); (try simp only [go_sem, hs, hg, hx, hsx, htn])<;> rfl) (by simp only [go_sem] <;> rfl) (by simp only [go_sem] <;> rfl) ?_
            refine OpenK.yes (by simp only [go_sem] <;> rfl) (by simp only [go_sem, hs, hg, hx, hsx, htn] <;> rfl) (by simp only [go_sem] <;> rfl) (by simp only [go_sem] <;> rfl) ?_
            refine OpenK.yes (by simp only [go_sem] <;> rfl) (by simp only [go_sem, hs, hg, hx, hsx, htn]; (try simp (disch := omega) only [if_pos]); (try simp only [go_sem, hs, hg, hx, hsx, htn])<;> rfl) (by simp only [go_sem] <;> rfl) (by simp only [go_sem] <;> rfl) ?_
            refine OpenK.yes (by simp only [go_sem] <;> rfl) (by simp only [go_sem, hs, hg, hx, hsx, htn] <;> rfl) (by simp only [go_sem] <;> rfl) (by simp only [go_sem] <;> rfl) ?_
            refine OpenK.yes (by simp only [go_sem] <;> rfl) (by simp only [go_sem, hs, hg, hx, hsx, htn] <;> rfl) (by simp only [go_sem] <;> rfl) (by simp only [go_sem] <;> rfl) ?_
            refine OpenK.yes (by simp only [go_sem] <;> rfl) (by simp only [go_sem, hs, hg, hx, hsx, htn] <;> rfl) (by simp only [go_sem] <;> rfl) (by simp only [go_sem] <;> rfl) ?_
            refine OpenK.yes (by simp only [go_sem] <;> rfl) (by simp only [go_sem, hs, hg, hx, hsx, htn] <;> rfl) (by simp only [go_sem] <;> rfl) (by simp only [go_sem] <;> rfl) ?_
            refine OpenK.yes (by simp only [go_sem] <;> rfl) (by simp only [go_sem, hs, hg, hx, hsx, htn] <;> rfl) (by simp only [go_sem] <;> rfl) (by simp only [go_sem] <;> rfl) ?_
            refine OpenK.yes (by simp only [go_sem] <;> rfl) (by simp only [go_sem, hs, hg, hx, hsx, htn]; (try simp (disch := omega) only [if_pos]); (try simp only [go_sem, hs, hg, hx, hsx, htn])<;> rfl) (by simp only [go_sem] <;> rfl) (by simp only [go_sem] <;> rfl) ?_
            refine OpenK.yes (by simp only [go_sem] <;> rfl) (by simp only [go_sem, hs, hg, hx, hsx, htn] <;> rfl) (by simp only [go_sem] <;> rfl) (by simp only [go_sem] <;> rfl) ?_
            refine OpenK.yes (by simp only [go_sem] <;> rfl) (by simp only [go_sem, hs, hg, hx, hsx, htn] <;> rfl) (by simp only [go_sem] <;> rfl) (by simp only [go_sem] <;> rfl) ?_
            refine OpenK.yes (by simp only [go_sem] <;> rfl) (by simp only [go_sem, hs, hg, hx, hsx, htn] <;> rfl) (by simp only [go_sem] <;> rfl) (by simp only [go_sem] <;> rfl) ?_
            refine OpenK.op (by simp only [go_sem, hs, hg, hx, hsx, htn] <;> rfl) (by simp only [go_sem] <;> rfl) (by simp only [go_sem] <;> rfl) ?_
            refine OpenK.nil (OpenE.finT (by kernel_rfl) (by kernel_rfl) (by kernel_rfl) ?_)
            refine Exec.cndS (by simp only [go_sem, hs, hg, hx, hsx, htn] <;> rfl) (fun hb45 => ?_) (fun hb45 => ?_)
            · skip
              have hXn : atS w k (ofN w house k) (ofN w house k).length = atS w k (ofN w house k) ((ofN w house k).length - (j + 1)) := by rw [Xj, hLj, atS, if_pos (by rw [hget]; simpa using hb45)]
              have hz : ((ofN w house k).length : Int) - (j : Int) - 1 = ((ofN w house k).length : Int) - ((j + 1 : Nat) : Int) := by omega
              refine Exec.skipS ?_
              refine Exec.blk1 ?_
              refine Exec.reg1 ?_
              refine Run.op (by simp only [go_sem, hs, hg, hx, hsx, htn] <;> rfl) (by simp only [go_sem] <;> rfl) ?_
              refine Run.op (by simp only [go_sem, hs, hg, hx, hsx, htn]; (try simp (disch := omega) only [IntWalk.i64_in, IntWalk.u64_in, if_neg, if_pos])<;> rfl) (by simp only [go_sem] <;> rfl) ?_
              refine Run.op (by simp only [go_sem, hs, hg, hx, hsx, htn] <;> rfl) (by simp only [go_sem] <;> rfl) ?_
              refine Run.nil ?_
              refine Blk1K.nrm ?_
              refine ForK.nxt ?_ ?_ ?_
              · omega
              · exact Ghost.kp [1, 2, 5, 6, 7] [2] (by simp only [go_sem, hs, hg, hx, hsx, htn]; first | ((repeat' (first | with_reducible_and_instances rfl | refine st_eq ?_ ?_ ?_ | refine ret_eq ?_ | refine tup_eq ?_ | refine tm_eq ?_ ?_ | refine arr_eq ?_ | refine cells_eq ?_ | refine val_eq ?_ | refine ls_eq ?_ ?_ | refine own_eq ?_ ?_ | refine sl_eq ?_ | refine b_eq ?_ | (refine i_eq ?_; omega))); done) | rfl)
              · exact hXn
            · skip
              have hat : ((ofN w house k).length : Int) - (j : Int) = ((atS w k (ofN w house k) (ofN w house k).length : Nat) : Int) := by rw [Xj, hLj, atS, if_neg (by rw [hget]; simpa using hb45)]; omega
              have hal := atS_le w k (ofN w house k) (ofN w house k).length
              refine Exec.exitS ?_
              refine ForK.ext ?_
              refine BlkK.hit ?_
              rw [hat]
              refine Exec.opk1 15 ?_
              refine OpenK.op (by simp only [go_sem, hs, hg, hx, hsx, htn] <;> rfl) (by simp only [go_sem] <;> rfl) (by simp only [go_sem] <;> rfl) ?_
              refine OpenK.op (by simp only [go_sem, hs, hg, hx, hsx, htn] <;> rfl) (by simp only [go_sem] <;> rfl) (by simp only [go_sem] <;> rfl) ?_
              refine OpenK.op (by simp only [go_sem, hs, hg, hx, hsx, htn] <;> rfl) (by simp only [go_sem] <;> rfl) (by simp only [go_sem] <;> rfl) ?_
              refine OpenK.op (by simp only [go_sem, hs, hg, hx, hsx, htn]; (try simp (disch := omega) only [if_pos]); (try simp only [go_sem, hs, hg, hx, hsx, htn])<;> rfl) (by simp only [go_sem] <;> rfl) (by simp only [go_sem] <;> rfl) ?_
              refine OpenK.op (by simp only [go_sem, hs, hg, hx, hsx, htn]; (try simp (disch := omega) only [if_pos]); (try simp only [go_sem, hs, hg, hx, hsx, htn]) <;> first | (refine ite_run ⟨by (try simp only [List.length_append, List.length_drop, List.length_take, List.length_map, List.length_cons, List.length_nil, List.length_replicate, List.length_set, List.length_range, Nat.zero_add]); omega, by (try simp only [List.length_append, List.length_drop, List.length_take, List.length_map, List.length_cons, List.length_nil, List.length_replicate, List.length_set, List.length_range, Nat.zero_add]); omega, by repeat (first | exact al_nil | assumption | refine al_app ?_ ?_ | refine al_drop ?_ | refine al_take ?_ | exact al_map (fun _ => rfl) | exact al_rep rfl | refine al_cons rfl ?_)⟩ ?_; simp only [go_sem, hs, hg, hx, hsx, htn] <;> rfl) | (refine ite_run ⟨by (try simp only [List.length_append, List.length_drop, List.length_take, List.length_map, List.length_cons, List.length_nil, List.length_replicate, List.length_set, List.length_range, Nat.zero_add]); omega, by repeat (first | exact al_nil | assumption | refine al_app ?_ ?_ | refine al_drop ?_ | refine al_take ?_ | exact al_map (fun _ => rfl) | exact al_rep rfl | refine al_cons rfl ?_)⟩ ?_; simp only [go_sem, hs, hg, hx, hsx, htn] <;> rfl) | rfl) (by simp only [go_sem] <;> rfl) (by simp only [go_sem] <;> rfl) ?_
              refine OpenK.op (by simp only [go_sem, hs, hg, hx, hsx, htn] <;> rfl) (by simp only [go_sem] <;> rfl) (by simp only [go_sem] <;> rfl) ?_
              refine OpenK.op (by simp only [go_sem, hs, hg, hx, hsx, htn] <;> rfl) (by simp only [go_sem] <;> rfl) (by simp only [go_sem] <;> rfl) ?_
              refine OpenK.op (by simp only [go_sem, hs, hg, hx, hsx, htn]; (try simp (disch := omega) only [if_pos]); (try simp only [go_sem, hs, hg, hx, hsx, htn]) <;> first | (refine ite_run ⟨by (try simp only [List.length_append, List.length_drop, List.length_take, List.length_map, List.length_cons, List.length_nil, List.length_replicate, List.length_set, List.length_range, Nat.zero_add]); omega, by (try simp only [List.length_append, List.length_drop, List.length_take, List.length_map, List.length_cons, List.length_nil, List.length_replicate, List.length_set, List.length_range, Nat.zero_add]); omega, by repeat (first | exact al_nil | assumption | refine al_app ?_ ?_ | refine al_drop ?_ | refine al_take ?_ | exact al_map (fun _ => rfl) | exact al_rep rfl | refine al_cons rfl ?_)⟩ ?_; simp only [go_sem, hs, hg, hx, hsx, htn] <;> rfl) | (refine ite_run ⟨by (try simp only [List.length_append, List.length_drop, List.length_take, List.length_map, List.length_cons, List.length_nil, List.length_replicate, List.length_set, List.length_range, Nat.zero_add]); omega, by repeat (first | exact al_nil | assumption | refine al_app ?_ ?_ | refine al_drop ?_ | refine al_take ?_ | exact al_map (fun _ => rfl) | exact al_rep rfl | refine al_cons rfl ?_)⟩ ?_; simp only [go_sem, hs, hg, hx, hsx, htn] <;> rfl) | rfl) (by simp only [go_sem] <;> rfl) (by simp only [go_sem] <;> rfl) ?_
              refine OpenK.op (by simp only [go_sem, hs, hg, hx, hsx, htn] <;> rfl) (by simp only [go_sem] <;> rfl) (by simp only [go_sem] <;> rfl) ?_
              refine OpenK.op (by simp only [go_sem, hs, hg, hx, hsx, htn] <;> rfl) (by simp only [go_sem] <;> rfl) (by simp only [go_sem] <;> rfl) ?_
              refine OpenK.op (by simp only [go_sem, hs, hg, hx, hsx, htn]; (try simp (disch := omega) only [if_pos]); (try simp only [go_sem, hs, hg, hx, hsx, htn])<;> rfl) (by simp only [go_sem] <;> rfl) (by simp only [go_sem] <;> rfl) ?_
              refine OpenK.op (by simp only [go_sem, hs, hg, hx, hsx, htn]; (try simp (disch := omega) only [if_pos]); (try simp only [go_sem, hs, hg, hx, hsx, htn]) <;> first | (refine ite_run ⟨by (try simp only [List.length_append, List.length_drop, List.length_take, List.length_map, List.length_cons, List.length_nil, List.length_replicate, List.length_set, List.length_range, Nat.zero_add]); omega, by (try simp only [List.length_append, List.length_drop, List.length_take, List.length_map, List.length_cons, List.length_nil, List.length_replicate, List.length_set, List.length_range, Nat.zero_add]); omega, by repeat (first | exact al_nil | assumption | refine al_app ?_ ?_ | refine al_drop ?_ | refine al_take ?_ | exact al_map (fun _ => rfl) | exact al_rep rfl | refine al_cons rfl ?_)⟩ ?_; simp only [go_sem, hs, hg, hx, hsx, htn] <;> rfl) | (refine ite_run ⟨by (try simp only [List.length_append, List.length_drop, List.length_take, List.length_map, List.length_cons, List.length_nil, List.length_replicate, List.length_set, List.length_range, Nat.zero_add]); omega, by repeat (first | exact al_nil | assumption | refine al_app ?_ ?_ | refine al_drop ?_ | refine al_take ?_ | exact al_map (fun _ => rfl) | exact al_rep rfl | refine al_cons rfl ?_)⟩ ?_; simp only [go_sem, hs, hg, hx, hsx, htn] <;> rfl) | rfl) (by simp only [go_sem] <;> rfl) (by simp only [go_sem] <;> rfl) ?_
              refine OpenK.op (by simp only [go_sem, hs, hg, hx, hsx, htn] <;> rfl) (by simp only [go_sem] <;> rfl) (by simp only [go_sem] <;> rfl) ?_
              refine OpenK.nil (OpenE.gho (by decide +kernel) (by decide +kernel) (Ghost.frzA 48) (by simp only [go_sem] <;> rfl) ?_)
              refine BlkK.nrm ?_
              refine Exec.reg1 ?_
              refine Run.op (by simp only [go_sem, hs, hg, hx, hsx, htn] <;> rfl) (by simp only [go_sem] <;> rfl) ?_
              refine Run.op (by simp only [go_sem, hs, hg, hx, hsx, htn]; (try simp (disch := omega) only [IntWalk.i64_in, IntWalk.u64_in, if_neg, if_pos])<;> rfl) (by simp only [go_sem] <;> rfl) ?_
              refine Run.op (by simp only [go_sem, hs, hg, hx, hsx, htn] <;> rfl) (by simp only [go_sem] <;> rfl) ?_
              refine Run.nil ?_
              refine ForK.nxt ?_ ?_ ?_
              · omega
              · exact Ghost.kp [1, 2, 5, 6] [2] (by simp only [go_sem, hs, hg, hx, hsx, htn]; first | ((repeat' (first | with_reducible_and_instances rfl | refine st_eq ?_ ?_ ?_ | refine ret_eq ?_ | refine tup_eq ?_ | refine tm_eq ?_ ?_ | refine arr_eq ?_ | refine cells_eq ?_ | refine val_eq ?_ | refine ls_eq ?_ ?_ | refine own_eq ?_ ?_ | refine sl_eq ?_ | refine b_eq ?_ | (refine i_eq ?_; omega))); (rw [ofN, if_pos hh, insS, List.take_of_length_le (by simp [List.length_take, List.length_drop]; omega)]; simp [List.map_take, List.map_drop, encNat])) | rfl)
              · trivial
          · skip
            have hg : decide (((ofN w house k).length : Int) - (j : Int) > 0) = false := by simp; omega
            refine Exec.opk 23 ?_
            refine OpenK.op (by simp only [go_sem, hs, hg] <;> rfl) (by simp only [go_sem] <;> rfl) (by simp only [go_sem] <;> rfl) ?_
            refine OpenK.op (by simp only [go_sem, hs, hg] <;> rfl) (by simp only [go_sem] <;> rfl) (by simp only [go_sem] <;> rfl) ?_
            refine OpenK.op (by simp only [go_sem, hs, hg] <;> rfl) (by simp only [go_sem] <;> rfl) (by simp only [go_sem] <;> rfl) ?_
            refine OpenK.skp (by simp only [go_sem] <;> rfl) (by simp only [go_sem] <;> rfl) (by simp only [go_sem] <;> rfl) ?_
            refine OpenK.skp (by simp only [go_sem] <;> rfl) (by simp only [go_sem] <;> rfl) (by simp only [go_sem] <;> rfl) ?_
            refine OpenK.skp (by simp only [go_sem] <;> rfl) (by simp only [go_sem] <;> rfl) (by simp only [go_sem] <;> rfl) ?_
            refine OpenK.skp (by simp only [go_sem] <;> rfl) (by simp only [go_sem] <;> rfl) (by simp only [go_sem] <;> rfl) ?_
            refine OpenK.skp (by simp only [go_sem] <;> rfl) (by simp only [go_sem] <;> rfl) (by simp only [go_sem] <;> rfl) ?_
            refine OpenK.skp (by simp only [go_sem] <;> rfl) (by simp only [go_sem] <;> rfl) (by simp only [go_sem] <;> rfl) ?_
            refine OpenK.skp (by simp only [go_sem] <;> rfl) (by simp only [go_sem] <;> rfl) (by simp only [go_sem] <;> rfl) ?_
            refine OpenK.skp (by simp only [go_sem] <;> rfl) (by simp only [go_sem] <;> rfl) (by simp only [go_sem] <;> rfl) ?_
            refine OpenK.skp (by simp only [go_sem] <;> rfl) (by simp only [go_sem] <;> rfl) (by simp only [go_sem] <;> rfl) ?_
            refine OpenK.skp (by simp only [go_sem] <;> rfl) (by simp only [go_sem] <;> rfl) (by simp only [go_sem] <;> rfl) ?_
            refine OpenK.skp (by simp only [go_sem] <;> rfl) (by simp only [go_sem] <;> rfl) (by simp only [go_sem] <;> rfl) ?_
            refine OpenK.skp (by simp only [go_sem] <;> rfl) (by simp only [go_sem] <;> rfl) (by simp only [go_sem] <;> rfl) ?_
            refine OpenK.skp (by simp only [go_sem] <;> rfl) (by simp only [go_sem] <;> rfl) (by simp only [go_sem] <;> rfl) ?_
            refine OpenK.skp (by simp only [go_sem] <;> rfl) (by simp only [go_sem] <;> rfl) (by simp only [go_sem] <;> rfl) ?_
            refine OpenK.skp (by simp only [go_sem] <;> rfl) (by simp only [go_sem] <;> rfl) (by simp only [go_sem] <;> rfl) ?_
            refine OpenK.skp (by simp only [go_sem] <;> rfl) (by simp only [go_sem] <;> rfl) (by simp only [go_sem] <;> rfl) ?_
            refine OpenK.skp (by simp only [go_sem] <;> rfl) (by simp only [go_sem] <;> rfl) (by simp only [go_sem] <;> rfl) ?_
            refine OpenK.op (by simp only [go_sem, hs, hg] <;> rfl) (by simp only [go_sem] <;> rfl) (by simp only [go_sem] <;> rfl) ?_
            refine OpenK.nil (OpenE.finT (by kernel_rfl) (by kernel_rfl) (by kernel_rfl) ?_)
            refine Exec.cndS (by simp only [go_sem, hs, hg] <;> rfl) (fun hb45 => ?_) (fun hb45 => ?_)
            · exact absurd hb45 (by simp)
            · skip
              have hat : ((ofN w house k).length : Int) - (j : Int) = ((atS w k (ofN w house k) (ofN w house k).length : Nat) : Int) := by rw [Xj, show (ofN w house k).length - j = 0 by omega, atS]; omega
              have hal := atS_le w k (ofN w house k) (ofN w house k).length
              refine Exec.exitS ?_
              refine ForK.ext ?_
              refine BlkK.hit ?_
              rw [hat]
              refine Exec.opk1 15 ?_
              refine OpenK.op (by simp only [go_sem, hs, hg] <;> rfl) (by simp only [go_sem] <;> rfl) (by simp only [go_sem] <;> rfl) ?_
              refine OpenK.op (by simp only [go_sem, hs, hg] <;> rfl) (by simp only [go_sem] <;> rfl) (by simp only [go_sem] <;> rfl) ?_
              refine OpenK.op (by simp only [go_sem, hs, hg] <;> rfl) (by simp only [go_sem] <;> rfl) (by simp only [go_sem] <;> rfl) ?_
              refine OpenK.op (by simp only [go_sem, hs, hg]; (try simp (disch := omega) only [if_pos]); (try simp only [go_sem, hs, hg])<;> rfl) (by simp only [go_sem] <;> rfl) (by simp only [go_sem] <;> rfl) ?_
              refine OpenK.op (by simp only [go_sem, hs, hg]; (try simp (disch := omega) only [if_pos]); (try simp only [go_sem, hs, hg]) <;> first | (refine ite_run ⟨by (try simp only [List.length_append, List.length_drop, List.length_take, List.length_map, List.length_cons, List.length_nil, List.length_replicate, List.length_set, List.length_range, Nat.zero_add]); omega, by (try simp only [List.length_append, List.length_drop, List.length_take, List.length_map, List.length_cons, List.length_nil, List.length_replicate, List.length_set, List.length_range, Nat.zero_add]); omega, by repeat (first | exact al_nil | assumption | refine al_app ?_ ?_ | refine al_drop ?_ | refine al_take ?_ | exact al_map (fun _ => rfl) | exact al_rep rfl | refine al_cons rfl ?_)⟩ ?_; simp only [go_sem, hs, hg] <;> rfl) | (refine ite_run ⟨by (try simp only [List.length_append, List.length_drop, List.length_take, List.length_map, List.length_cons, List.length_nil, List.length_replicate, List.length_set, List.length_range, Nat.zero_add]); omega, by repeat (first | exact al_nil | assumption | refine al_app ?_ ?_ | refine al_drop ?_ | refine al_take ?_ | exact al_map (fun _ => rfl) | exact al_rep rfl | refine al_cons rfl ?_)⟩ ?_; simp only [go_sem, hs, hg] <;> rfl) | rfl) (by simp only [go_sem] <;> rfl) (by simp only [go_sem] <;> rfl) ?_
              refine OpenK.op (by simp only [go_sem, hs, hg] <;> rfl) (by simp only [go_sem] <;> rfl) (by simp only [go_sem] <;> rfl) ?_
              refine OpenK.op (by simp only [go_sem, hs, hg] <;> rfl) (by simp only [go_sem] <;> rfl) (by simp only [go_sem] <;> rfl) ?_
              refine OpenK.op (by simp only [go_sem, hs, hg]; (try simp (disch := omega) only [if_pos]); (try simp only [go_sem, hs, hg]) <;> first | (refine ite_run ⟨by (try simp only [List.length_append, List.length_drop, List.length_take, List.length_map, List.length_cons, List.length_nil, List.length_replicate, List.length_set, List.length_range, Nat.zero_add]); omega, by (try simp only [List.length_append, List.length_drop, List.length_take, List.length_map, List.length_cons, List.length_nil, List.length_replicate, List.length_set, List.length_range, Nat.zero_add]); omega, by repeat (first | exact al_nil | assumption | refine al_app ?_ ?_ | refine al_drop ?_ | refine al_take ?_ | exact al_map (fun _ => rfl) | exact al_rep rfl | refine al_cons rfl ?_)⟩ ?_; simp only [go_sem, hs, hg] <;> rfl) | (refine ite_run ⟨by (try simp only [List.length_append, List.length_drop, List.length_take, List.length_map, List.length_cons, List.length_nil, List.length_replicate, List.length_set, List.length_range, Nat.zero_add]); omega, by repeat (first | exact al_nil | assumption | refine al_app ?_ ?_ | refine al_drop ?_ | refine al_take ?_ | exact al_map (fun _ => rfl) | exact al_rep rfl | refine al_cons rfl ?_)⟩ ?_; simp only [go_sem, hs, hg] <;> rfl) | rfl) (by simp only [go_sem] <;> rfl) (by simp only [go_sem] <;> rfl) ?_
              refine OpenK.op (by simp only [go_sem, hs, hg] <;> rfl) (by simp only [go_sem] <;> rfl) (by simp only [go_sem] <;> rfl) ?_
              refine OpenK.op (by simp only [go_sem, hs, hg] <;> rfl) (by simp only [go_sem] <;> rfl) (by simp only [go_sem] <;> rfl) ?_
              refine OpenK.op (by simp only [go_sem, hs, hg]; (try simp (disch := omega) only [if_pos]); (try simp only [go_sem, hs, hg])<;> rfl) (by simp only [go_sem] <;> rfl) (by simp only [go_sem] <;> rfl) ?_
              refine OpenK.op (by simp only [go_sem, hs, hg]; (try simp (disch := omega) only [if_pos]); (try simp only [go_sem, hs, hg]) <;> first | (refine ite_run ⟨by (try simp only [List.length_append, List.length_drop, List.length_take, List.length_map, List.length_cons, List.length_nil, List.length_replicate, List.length_set, List.length_range, Nat.zero_add]); omega, by (try simp only [List.length_append, List.length_drop, List.length_take, List.length_map, List.length_cons, List.length_nil, List.length_replicate, List.length_set, List.length_range, Nat.zero_add]); omega, by repeat (first | exact al_nil | assumption | refine al_app ?_ ?_ | refine al_drop ?_ | refine al_take ?_ | exact al_map (fun _ => rfl) | exact al_rep rfl | refine al_cons rfl ?_)⟩ ?_; simp only [go_sem, hs, hg] <;> rfl) | (refine ite_run ⟨by (try simp only [List.length_append, List.length_drop, List.length_take, List.length_map, List.length_cons, List.length_nil, List.length_replicate, List.length_set, List.length_range, Nat.zero_add]); omega, by repeat (first | exact al_nil | assumption | refine al_app ?_ ?_ | refine al_drop ?_ | refine al_take ?_ | exact al_map (fun _ => rfl) | exact al_rep rfl | refine al_cons rfl ?_)⟩ ?_; simp only [go_sem, hs, hg] <;> rfl) | rfl) (by simp only [go_sem] <;> rfl) (by simp only [go_sem] <;> rfl) ?_
              refine OpenK.op (by simp only [go_sem, hs, hg] <;> rfl) (by simp only [go_sem] <;> rfl) (by simp only [go_sem] <;> rfl) ?_
              refine OpenK.nil (OpenE.gho (by decide +kernel) (by decide +kernel) (Ghost.frzA 48) (by simp only [go_sem] <;> rfl) ?_)
              refine BlkK.nrm ?_
              refine Exec.reg1 ?_
              refine Run.op (by simp only [go_sem, hs, hg] <;> rfl) (by simp only [go_sem] <;> rfl) ?_
              refine Run.op (by simp only [go_sem, hs, hg]; (try simp (disch := omega) only [IntWalk.i64_in, IntWalk.u64_in, if_neg, if_pos])<;> rfl) (by simp only [go_sem] <;> rfl) ?_
              refine Run.op (by simp only [go_sem, hs, hg] <;> rfl) (by simp only [go_sem] <;> rfl) ?_
              refine Run.nil ?_
              refine ForK.nxt ?_ ?_ ?_
              · omega
              · exact Ghost.kp [1, 2, 5, 6] [2] (by simp only [go_sem, hs, hg]; first | ((repeat' (first | with_reducible_and_instances rfl | refine st_eq ?_ ?_ ?_ | refine ret_eq ?_ | refine tup_eq ?_ | refine tm_eq ?_ ?_ | refine arr_eq ?_ | refine cells_eq ?_ | refine val_eq ?_ | refine ls_eq ?_ ?_ | refine own_eq ?_ ?_ | refine sl_eq ?_ | refine b_eq ?_ | (refine i_eq ?_; omega))); (rw [ofN, if_pos hh, insS, List.take_of_length_le (by simp [List.length_take, List.length_drop]; omega)]; simp [List.map_take, List.map_drop, encNat])) | rfl)
              · trivial
    · skip
      have e : ofN w house k = ofS w house := by rw [ofS]; congr 1; have := ge_of_dec hb12; omega
      refine Exec.exitS ?_
      refine ForK.ext ?_
      refine BlkK.hit ?_
      refine Exec.reg ?_
      iterate 2 (refine Run.op (by simp only [go_sem, e] <;> rfl) (by simp only [go_sem] <;> rfl) ?_)
      refine Run.nil ?_
      exact Ends.fin [] (rs := [.tmp 4]) rfl (by simp only [go_sem, e] <;> rfl) (by simp only [go_sem, e] <;> first | rfl | ((repeat' (first | with_reducible_and_instances rfl | refine st_eq ?_ ?_ ?_ | refine ret_eq ?_ | refine tup_eq ?_ | refine tm_eq ?_ ?_ | refine arr_eq ?_ | refine cells_eq ?_ | refine val_eq ?_ | refine ls_eq ?_ ?_ | refine own_eq ?_ ?_ | refine sl_eq ?_ | refine b_eq ?_ | (refine i_eq ?_; omega))); done))

end Go.Mw
namespace Go.Mw
open Go.Proofs
set_option maxRecDepth 20000 in
/-- meterworks/meterworksref12.bad -/
theorem c_meterworksref12_bad (w : Walk) (house : Nat) (h1 : w.rates.length ≤ 1000) (h2 : w.readings.length ≤ 1000) (hw : walkB w = true) (hh : house < w.rates.length) : Contract Try.prog 35 [walkV w, .int house] (.int (optI (badS w house))) [] := by
  have hol := len_ofS w house
  have hs := rt_get hh
  refine con_of follows_mixed Try.func35 rfl (by simp only [List.length_cons, List.length_nil, Try.ntmps35]; omega) (by kernel_rfl) rfl ?_
  refine Exec.reg ?_
  iterate 2 (refine Run.op (by simp only [go_sem] <;> rfl) (by simp only [go_sem] <;> rfl) ?_)
  refine Run.nil ?_
  refine Exec.reg ?_
  iterate 2 (refine Run.op (by simp only [go_sem] <;> rfl) (by simp only [go_sem] <;> rfl) ?_)
  refine Run.cal (c_meterworksref12_Of w _ h1 h2) (by simp only [go_sem]) (by simp only [go_sem] <;> rfl) (by exact ⟨by first | exact WkR.pure rfl | exact WkR.nil _ | exact WkR.int (by first | omega | (simp; done) | (simp; omega)), by first | exact WkR.pure rfl | exact WkR.nil _ | exact WkR.int (by first | omega | (simp; done) | (simp; omega)), trivial⟩) (fr0) (by simp only [go_sem] <;> rfl) ?_
  refine Run.op (by simp only [go_sem] <;> rfl) (by simp only [go_sem] <;> rfl) ?_
  refine Run.nil ?_
  refine Exec.assocS ?_
  refine Exec.reg ?_
  refine Run.op (by simp only [go_sem] <;> rfl) (by simp only [go_sem] <;> rfl) ?_
  refine Run.nil ?_
  refine Exec.blk ?_
  refine Exec.forA [1, 2, 5, 6] [2] ((ofS w house).length) (fun k => [.slot 6 (.int ((k : Int) + 1))]) (fun k => badS w house = badL w (rt w house) ((ofS w house).drop k)) (fun k => by simp only [go_sem] <;> rfl) (by simp only [go_sem] <;> rfl) ?_ (fun k hk hX => ?_)
  · rfl
  · skip
    refine Exec.assocS ?_
    refine Exec.reg ?_
    iterate 4 (refine Run.op (by simp only [go_sem] <;> rfl) (by simp only [go_sem] <;> rfl) ?_)
    refine Run.nil ?_
    refine Exec.cndS (by simp only [go_sem] <;> rfl) (fun hb13 => ?_) (fun hb13 => ?_)
    · skip
      have hlt : k + 1 < (ofS w house).length := by have := of_decide_eq_true hb13; omega
      obtain ⟨a, ha⟩ : ∃ a, (ofS w house)[k]? = some a := ⟨_, List.getElem?_eq_getElem (by omega)⟩
      obtain ⟨b, hb⟩ : ∃ b, (ofS w house)[k + 1]? = some b := ⟨_, List.getElem?_eq_getElem (by omega)⟩
      have hal := (mem_ofS.1 (List.mem_of_getElem? ha)).1
      have hbl := (mem_ofS.1 (List.mem_of_getElem? hb)).1
      have hsa := rd_get hal
      have hsb := rd_get hbl
      have t1 : ((k : Int) + 1 - 1).toNat = k := by omega
      have t2 : ((k : Int) + 1).toNat = k + 1 := by omega
      refine Exec.skipS ?_
      refine Exec.blk ?_
      refine Exec.opk 26 ?_
      refine OpenK.op (by simp only [go_sem, hs, ha, hb, hsa, hsb, t1, t2] <;> rfl) (by simp only [go_sem] <;> rfl) (by simp only [go_sem] <;> rfl) ?_
      refine OpenK.op (by simp only [go_sem, hs, ha, hb, hsa, hsb, t1, t2] <;> rfl) (by simp only [go_sem] <;> rfl) (by simp only [go_sem] <;> rfl) ?_
      refine OpenK.op (by simp only [go_sem, hs, ha, hb, hsa, hsb, t1, t2] <;> rfl) (by simp only [go_sem] <;> rfl) (by simp only [go_sem] <;> rfl) ?_
      refine OpenK.op (by simp only [go_sem, hs, ha, hb, hsa, hsb, t1, t2]; (try simp (disch := omega) only [if_pos]); (try simp only [go_sem, hs, ha, hb, hsa, hsb, t1, t2])<;> rfl) (by simp only [go_sem] <;> rfl) (by simp only [go_sem] <;> rfl) ?_
      refine OpenK.op (by simp only [go_sem, hs, ha, hb, hsa, hsb, t1, t2] <;> rfl) (by simp only [go_sem] <;> rfl) (by simp only [go_sem] <;> rfl) ?_
      refine OpenK.op (by simp only [go_sem, hs, ha, hb, hsa, hsb, t1, t2] <;> rfl) (by simp only [go_sem] <;> rfl) (by simp only [go_sem] <;> rfl) ?_
      refine OpenK.op (by simp only [go_sem, hs, ha, hb, hsa, hsb, t1, t2] <;> rfl) (by simp only [go_sem] <;> rfl) (by simp only [go_sem] <;> rfl) ?_
      refine OpenK.op (by simp only [go_sem, hs, ha, hb, hsa, hsb, t1, t2] <;> rfl) (by simp only [go_sem] <;> rfl) (by simp only [go_sem] <;> rfl) ?_
      refine OpenK.op (by simp only [go_sem, hs, ha, hb, hsa, hsb, t1, t2] <;> rfl) (by simp only [go_sem] <;> rfl) (by simp only [go_sem] <;> rfl) ?_
      refine OpenK.op (by simp only [go_sem, hs, ha, hb, hsa, hsb, t1, t2]; (try simp (disch := omega) only [IntWalk.i64_in, IntWalk.u64_in, if_neg, if_pos])<;> rfl) (by simp only [go_sem] <;> rfl) (by simp only [go_sem] <;> rfl) ?_
      refine OpenK.op (by simp only [go_sem, hs, ha, hb, hsa, hsb, t1, t2]; (try simp (disch := omega) only [if_pos]); (try simp only [go_sem, hs, ha, hb, hsa, hsb, t1, t2])<;> rfl) (by simp only [go_sem] <;> rfl) (by simp only [go_sem] <;> rfl) ?_
      refine OpenK.op (by simp only [go_sem, hs, ha, hb, hsa, hsb, t1, t2] <;> rfl) (by simp only [go_sem] <;> rfl) (by simp only [go_sem] <;> rfl) ?_
      refine OpenK.op (by simp only [go_sem, hs, ha, hb, hsa, hsb, t1, t2]; (try simp (disch := omega) only [if_pos]); (try simp only [go_sem, hs, ha, hb, hsa, hsb, t1, t2])<;> rfl) (by simp only [go_sem] <;> rfl) (by simp only [go_sem] <;> rfl) ?_
      refine OpenK.op (by simp only [go_sem, hs, ha, hb, hsa, hsb, t1, t2] <;> rfl) (by simp only [go_sem] <;> rfl) (by simp only [go_sem] <;> rfl) ?_
      refine OpenK.op (by simp only [go_sem, hs, ha, hb, hsa, hsb, t1, t2] <;> rfl) (by simp only [go_sem] <;> rfl) (by simp only [go_sem] <;> rfl) ?_
      refine OpenK.op (by simp only [go_sem, hs, ha, hb, hsa, hsb, t1, t2] <;> rfl) (by simp only [go_sem] <;> rfl) (by simp only [go_sem] <;> rfl) ?_
      refine OpenK.op (by simp only [go_sem, hs, ha, hb, hsa, hsb, t1, t2] <;> rfl) (by simp only [go_sem] <;> rfl) (by simp only [go_sem] <;> rfl) ?_
      refine OpenK.op (by simp only [go_sem, hs, ha, hb, hsa, hsb, t1, t2] <;> rfl) (by simp only [go_sem] <;> rfl) (by simp only [go_sem] <;> rfl) ?_
      refine OpenK.op (by simp only [go_sem, hs, ha, hb, hsa, hsb, t1, t2]; (try simp (disch := omega) only [if_pos]); (try simp only [go_sem, hs, ha, hb, hsa, hsb, t1, t2])<;> rfl) (by simp only [go_sem] <;> rfl) (by simp only [go_sem] <;> rfl) ?_
      refine OpenK.op (by simp only [go_sem, hs, ha, hb, hsa, hsb, t1, t2] <;> rfl) (by simp only [go_sem] <;> rfl) (by simp only [go_sem] <;> rfl) ?_
      refine OpenK.op (by simp only [go_sem, hs, ha, hb, hsa, hsb, t1, t2]; (try simp (disch := omega) only [if_pos]); (try simp only [go_sem, hs, ha, hb, hsa, hsb, t1, t2])<;> rfl) (by simp only [go_sem] <;> rfl) (by simp only [go_sem] <;> rfl) ?_
      refine OpenK.op (by simp only [go_sem, hs, ha, hb, hsa, hsb, t1, t2] <;> rfl) (by simp only [go_sem] <;> rfl) (by simp only [go_sem] <;> rfl) ?_
      refine OpenK.cal (c_meterworksref12_two (rt w house) (rd w a) (rd w b) (rate_ok hw hh) (by have := read_ok hw hal; omega) (by have := read_ok hw hbl; omega)) (by simp only [go_sem]) (by simp only [go_sem, hs, ha, hb, hsa, hsb, t1, t2] <;> rfl) (by exact ⟨by first | exact WkR.pure rfl | exact WkR.nil _ | exact WkR.int (by first | omega | (simp; done) | (simp; omega)), by first | exact WkR.pure rfl | exact WkR.nil _ | exact WkR.int (by first | omega | (simp; done) | (simp; omega)), by first | exact WkR.pure rfl | exact WkR.nil _ | exact WkR.int (by first | omega | (simp; done) | (simp; omega)), trivial⟩) (fr0) (by simp only [go_sem, hs, ha, hb, hsa, hsb, t1, t2] <;> rfl) (by simp only [go_sem] <;> rfl) (by simp only [go_sem] <;> rfl) ?_
      refine OpenK.op (by simp only [go_sem, hs, ha, hb, hsa, hsb, t1, t2] <;> rfl) (by simp only [go_sem] <;> rfl) (by simp only [go_sem] <;> rfl) ?_
      refine OpenK.nil (OpenE.finT (by kernel_rfl) (by kernel_rfl) (by kernel_rfl) ?_)
      refine Exec.cnd (by simp only [go_sem, hs, ha, hb, hsa, hsb, t1, t2] <;> rfl) (fun hb39 => ?_) (fun hb39 => ?_)
      · skip
        have hr : optI (badS w house) = (b : Int) := by rw [hX, badL_at ha hb, if_neg (by simpa using hb39)]; rfl
        refine Exec.reg ?_
        iterate 2 (refine Run.op (by simp only [go_sem, hs, ha, hb, hsa, hsb, t1, t2, hr] <;> rfl) (by simp only [go_sem] <;> rfl) ?_)
        refine Run.op (by simp only [go_sem, hs, ha, hb, hsa, hsb, t1, t2, hr]; (try simp (disch := omega) only [if_pos]); (try simp only [go_sem, hs, ha, hb, hsa, hsb, t1, t2, hr])<;> rfl) (by simp only [go_sem] <;> rfl) ?_
        iterate 2 (refine Run.op (by simp only [go_sem, hs, ha, hb, hsa, hsb, t1, t2, hr] <;> rfl) (by simp only [go_sem] <;> rfl) ?_)
        refine Run.nil ?_
        refine BlkK.ret ?_
        refine ForK.ret ?_
        refine BlkK.ret ?_
        exact Ends.fin [] (rs := [.tmp 4]) rfl (by simp only [go_sem, hs, ha, hb, hsa, hsb, t1, t2, hr] <;> rfl) (by simp only [go_sem, hs, ha, hb, hsa, hsb, t1, t2, hr] <;> first | rfl | ((repeat' (first | with_reducible_and_instances rfl | refine st_eq ?_ ?_ ?_ | refine ret_eq ?_ | refine tup_eq ?_ | refine tm_eq ?_ ?_ | refine arr_eq ?_ | refine cells_eq ?_ | refine val_eq ?_ | refine ls_eq ?_ ?_ | refine own_eq ?_ ?_ | refine sl_eq ?_ | refine b_eq ?_ | (refine i_eq ?_; omega))); done))
      · skip
        refine BlkK.nrm ?_
        refine Exec.reg1 ?_
        refine Run.op (by simp only [go_sem, hs, ha, hb, hsa, hsb, t1, t2] <;> rfl) (by simp only [go_sem] <;> rfl) ?_
        refine Run.op (by simp only [go_sem, hs, ha, hb, hsa, hsb, t1, t2]; (try simp (disch := omega) only [IntWalk.i64_in, IntWalk.u64_in, if_neg, if_pos])<;> rfl) (by simp only [go_sem] <;> rfl) ?_
        refine Run.op (by simp only [go_sem, hs, ha, hb, hsa, hsb, t1, t2] <;> rfl) (by simp only [go_sem] <;> rfl) ?_
        refine Run.nil ?_
        refine ForK.nxt ?_ ?_ ?_
        · omega
        · exact Ghost.kp [1, 2, 5, 6] [2] (by simp only [go_sem, hs, ha, hb, hsa, hsb, t1, t2]; first | ((repeat' (first | with_reducible_and_instances rfl | refine st_eq ?_ ?_ ?_ | refine ret_eq ?_ | refine tup_eq ?_ | refine tm_eq ?_ ?_ | refine arr_eq ?_ | refine cells_eq ?_ | refine val_eq ?_ | refine ls_eq ?_ ?_ | refine own_eq ?_ ?_ | refine sl_eq ?_ | refine b_eq ?_ | (refine i_eq ?_; omega))); done) | rfl)
        · rw [hX, badL_at ha hb, if_pos (by simpa using hb39)]
    · skip
      have hr : optI (badS w house) = -1 := by rw [hX, badL_end (by have := of_decide_eq_false hb13; omega)]; rfl
      refine Exec.exitS ?_
      refine ForK.ext ?_
      refine BlkK.hit ?_
      refine Exec.reg ?_
      refine Run.op (by simp only [go_sem, hr] <;> rfl) (by simp only [go_sem] <;> rfl) ?_
      refine Run.nil ?_
      exact Ends.fin [] (rs := [.tmp 4]) rfl (by simp only [go_sem, hr] <;> rfl) (by simp only [go_sem, hr] <;> first | rfl | ((repeat' (first | with_reducible_and_instances rfl | refine st_eq ?_ ?_ ?_ | refine ret_eq ?_ | refine tup_eq ?_ | refine tm_eq ?_ ?_ | refine arr_eq ?_ | refine cells_eq ?_ | refine val_eq ?_ | refine ls_eq ?_ ?_ | refine own_eq ?_ ?_ | refine sl_eq ?_ | refine b_eq ?_ | (refine i_eq ?_; omega))); done))

set_option maxRecDepth 20000 in
/-- meterworks/meterworksref12.Misfit -/
theorem c_meterworksref12_Misfit (w : Walk) (h1 : w.rates.length ≤ 1000) (h2 : w.readings.length ≤ 1000) : Contract Try.prog 15 [walkV w] (tupI [(misfitR w).1, (misfitR w).2.1, (misfitR w).2.2]) [] := by
  refine con_of follows_mixed Try.func15 rfl (by simp only [List.length_cons, List.length_nil, Try.ntmps15]; omega) (by kernel_rfl) rfl ?_
  refine Exec.reg ?_
  iterate 4 (refine Run.op (by simp only [go_sem] <;> rfl) (by simp only [go_sem] <;> rfl) ?_)
  refine Run.nil ?_
  refine Exec.assocS ?_
  refine Exec.reg ?_
  refine Run.op (by simp only [go_sem] <;> rfl) (by simp only [go_sem] <;> rfl) ?_
  refine Run.cal (c_meterworksref12_Walk w h1 h2) (by simp only [go_sem]) (by simp only [go_sem] <;> rfl) (by exact ⟨by first | exact WkR.pure rfl | exact WkR.nil _ | exact WkR.int (by first | omega | (simp; done) | (simp; omega)), trivial⟩) (fr0) (by simp only [go_sem] <;> rfl) ?_
  refine Run.op (by simp only [go_sem] <;> rfl) (by simp only [go_sem] <;> rfl) ?_
  refine Run.nil ?_
  refine Exec.cndS (by simp only [go_sem] <;> rfl) (fun hb9 => ?_) (fun hb9 => ?_)
  · skip
    have hw : walkB w = false := by simpa using hb9
    have hr : misfitR w = (0, 0, 1) := by rw [misfitR, if_neg (by simp [hw])]
    refine Exec.assocS ?_
    refine Exec.reg ?_
    iterate 3 (refine Run.op (by simp only [go_sem, hr] <;> rfl) (by simp only [go_sem] <;> rfl) ?_)
    refine Run.nil ?_
    refine Exec.retS ?_
    exact Ends.fin [] (rs := [.tmp 2, .tmp 3, .tmp 4]) rfl (by simp only [go_sem, hr] <;> rfl) (by simp only [go_sem, hr] <;> first | rfl | ((repeat' (first | with_reducible_and_instances rfl | refine st_eq ?_ ?_ ?_ | refine ret_eq ?_ | refine tup_eq ?_ | refine tm_eq ?_ ?_ | refine arr_eq ?_ | refine cells_eq ?_ | refine val_eq ?_ | refine ls_eq ?_ ?_ | refine own_eq ?_ ?_ | refine sl_eq ?_ | refine b_eq ?_ | (refine i_eq ?_; omega))); done))
  · skip
    have hw : walkB w = true := by simpa using hb9
    refine Exec.skipS ?_
    refine Exec.assocS ?_
    refine Exec.reg ?_
    refine Run.op (by simp only [go_sem] <;> rfl) (by simp only [go_sem] <;> rfl) ?_
    refine Run.nil ?_
    refine Exec.blk ?_
    refine Exec.forA [1, 5] [1] (w.rates.length) (fun k => [.slot 5 (.int k)]) (fun k => ∀ j, j < k → badS w j = none) (fun k => by simp only [go_sem] <;> rfl) (by simp only [go_sem] <;> rfl) ?_ (fun k hk hX => ?_)
    · exact fun j hj => absurd hj (by omega)
    · skip
      refine Exec.assocS ?_
      refine Exec.reg ?_
      iterate 5 (refine Run.op (by simp only [go_sem] <;> rfl) (by simp only [go_sem] <;> rfl) ?_)
      refine Run.nil ?_
      refine Exec.cndS (by simp only [go_sem] <;> rfl) (fun hb14 => ?_) (fun hb14 => ?_)
      · skip
        have hlt := lt_of_dec hb14
        refine Exec.skipS ?_
        refine Exec.blk ?_
        refine Exec.reg ?_
        iterate 2 (refine Run.op (by simp only [go_sem] <;> rfl) (by simp only [go_sem] <;> rfl) ?_)
        refine Run.cal (c_meterworksref12_bad w k h1 h2 hw hlt) (by simp only [go_sem]) (by simp only [go_sem] <;> rfl) (by exact ⟨by first | exact WkR.pure rfl | exact WkR.nil _ | exact WkR.int (by first | omega | (simp; done) | (simp; omega)), by first | exact WkR.pure rfl | exact WkR.nil _ | exact WkR.int (by first | omega | (simp; done) | (simp; omega)), trivial⟩) (fr0) (by simp only [go_sem] <;> rfl) ?_
        refine Run.op (by simp only [go_sem] <;> rfl) (by simp only [go_sem] <;> rfl) ?_
        refine Run.nil ?_
        refine Exec.reg ?_
        iterate 2 (refine Run.op (by simp only [go_sem] <;> rfl) (by simp only [go_sem] <;> rfl) ?_)
        refine Run.nil ?_
        refine Exec.cnd (by simp only [go_sem] <;> rfl) (fun hb21 => ?_) (fun hb21 => ?_)
        · skip
          obtain ⟨n, hn⟩ : ∃ n, badS w k = some n := by rw [optI_ge] at hb21; exact Option.isSome_iff_exists.1 hb21
          have hr : misfitR w = ((k : Int), (n : Int), 0) := by rw [misfitR, if_pos hw, misfits_at hX hlt hn]
          have ho : optI (badS w k) = (n : Int) := by rw [hn]; rfl
          refine Exec.reg ?_
          iterate 5 (refine Run.op (by simp only [go_sem, hr, ho] <;> rfl) (by simp only [go_sem] <;> rfl) ?_)
          refine Run.nil ?_
          refine BlkK.ret ?_
          refine ForK.ret ?_
          refine BlkK.ret ?_
          exact Ends.fin [] (rs := [.tmp 2, .tmp 3, .tmp 4]) rfl (by simp only [go_sem, hr, ho] <;> rfl) (by simp only [go_sem, hr, ho] <;> first | rfl | ((repeat' (first | with_reducible_and_instances rfl | refine st_eq ?_ ?_ ?_ | refine ret_eq ?_ | refine tup_eq ?_ | refine tm_eq ?_ ?_ | refine arr_eq ?_ | refine cells_eq ?_ | refine val_eq ?_ | refine ls_eq ?_ ?_ | refine own_eq ?_ ?_ | refine sl_eq ?_ | refine b_eq ?_ | (refine i_eq ?_; omega))); done))
        · skip
          refine BlkK.nrm ?_
          refine Exec.reg1 ?_
          refine Run.op (by simp only [go_sem] <;> rfl) (by simp only [go_sem] <;> rfl) ?_
          refine Run.op (by simp only [go_sem]; (try simp (disch := omega) only [IntWalk.i64_in, IntWalk.u64_in, if_neg, if_pos])<;> rfl) (by simp only [go_sem] <;> rfl) ?_
          refine Run.op (by simp only [go_sem] <;> rfl) (by simp only [go_sem] <;> rfl) ?_
          refine Run.nil ?_
          refine ForK.nxt ?_ ?_ ?_
          · omega
          · exact Ghost.kp [1, 5] [1] (by simp only [go_sem]; first | ((repeat' (first | with_reducible_and_instances rfl | refine st_eq ?_ ?_ ?_ | refine ret_eq ?_ | refine tup_eq ?_ | refine tm_eq ?_ ?_ | refine arr_eq ?_ | refine cells_eq ?_ | refine val_eq ?_ | refine ls_eq ?_ ?_ | refine own_eq ?_ ?_ | refine sl_eq ?_ | refine b_eq ?_ | (refine i_eq ?_; omega))); done) | rfl)
          · exact fun j hj => if e : j = k then e ▸ (by rw [optI_ge] at hb21; simpa using hb21) else hX j (by omega)
      · skip
        have hr : misfitR w = (0, 0, 4) := by rw [misfitR, if_pos hw, misfits_none (fun j hj => hX j (by have := ge_of_dec hb14; omega))]
        refine Exec.exitS ?_
        refine ForK.ext ?_
        refine BlkK.hit ?_
        refine Exec.reg ?_
        iterate 3 (refine Run.op (by simp only [go_sem, hr] <;> rfl) (by simp only [go_sem] <;> rfl) ?_)
        refine Run.nil ?_
        exact Ends.fin [] (rs := [.tmp 2, .tmp 3, .tmp 4]) rfl (by simp only [go_sem, hr] <;> rfl) (by simp only [go_sem, hr] <;> first | rfl | ((repeat' (first | with_reducible_and_instances rfl | refine st_eq ?_ ?_ ?_ | refine ret_eq ?_ | refine tup_eq ?_ | refine tm_eq ?_ ?_ | refine arr_eq ?_ | refine cells_eq ?_ | refine val_eq ?_ | refine ls_eq ?_ ?_ | refine own_eq ?_ ?_ | refine sl_eq ?_ | refine b_eq ?_ | (refine i_eq ?_; omega))); done))

end Go.Mw
namespace Go.Mw
open Go.Proofs
end Go.Mw
namespace Go.Mw
open Go.Proofs
end Go.Mw

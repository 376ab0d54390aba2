/- Contracts of the functions that the drum reaches: plain ones. -/
import Derived.Test.YtenpjhnppaipbaaB4
set_option linter.unusedSimpArgs false
set_option linter.unusedVariables false
set_option linter.unusedSectionVars false
set_option linter.deprecated false
namespace Go.Mw
open Go.Proofs
open Go.Dr
set_option maxRecDepth 20000 in
/-- meterworks/meterworksref02.in -/
theorem c_meterworksref02_in (n l h : Int) : Contract Try.prog 32 [.int n, .int l, .int h] (.bool (inD n l h)) [] := by
  refine con_of follows_mixed Try.func32 rfl (by simp only [List.length_cons, List.length_nil, Try.ntmps32]; omega) (by kernel_rfl) rfl ?_
  refine Exec.reg ?_
  refine Run.op (by simp only [go_sem, inD] <;> rfl) (by simp only [go_sem] <;> rfl) ?_
  refine Run.nil ?_
  refine Exec.reg ?_
  iterate 4 (refine Run.op (by simp only [go_sem, inD] <;> rfl) (by simp only [go_sem] <;> rfl) ?_)
  refine Run.gop (by simp only [go_sem] <;> rfl) (by simp only [go_sem, inD] <;> rfl) (by simp only [go_sem] <;> rfl) ?_
  refine Run.gop (by simp only [go_sem] <;> rfl) (by simp only [go_sem, inD] <;> rfl) (by simp only [go_sem] <;> rfl) ?_
  refine Run.gop (by simp only [go_sem] <;> rfl) (by simp only [go_sem, inD] <;> rfl) (by simp only [go_sem] <;> rfl) ?_
  iterate 2 (refine Run.op (by simp only [go_sem, inD] <;> rfl) (by simp only [go_sem] <;> rfl) ?_)
  refine Run.nil ?_
  exact Ends.fin [] (rs := [.tmp 6]) rfl (by simp only [go_sem, inD] <;> rfl) (by simp only [go_sem, inD] <;> first | rfl | ((repeat' (first | with_reducible_and_instances rfl | refine st_eq ?_ ?_ ?_ | refine ret_eq ?_ | refine tup_eq ?_ | refine tm_eq ?_ ?_ | refine arr_eq ?_ | refine cells_eq ?_ | refine val_eq ?_ | refine ls_eq ?_ ?_ | refine own_eq ?_ ?_ | refine sl_eq ?_ | refine b_eq ?_ | (refine i_eq ?_; omega))); done))

set_option maxRecDepth 20000 in
/-- meterworks/drum.within -/
theorem c_drum_within (n l h : Int) : Contract Try.prog 28 [.int n, .int l, .int h] (.bool (inD n l h)) [] := by
  refine con_of follows_mixed Try.func28 rfl (by simp only [List.length_cons, List.length_nil, Try.ntmps28]; omega) (by kernel_rfl) rfl ?_
  refine Exec.reg ?_
  refine Run.op (by simp only [go_sem, inD] <;> rfl) (by simp only [go_sem] <;> rfl) ?_
  refine Run.nil ?_
  refine Exec.reg ?_
  iterate 4 (refine Run.op (by simp only [go_sem, inD] <;> rfl) (by simp only [go_sem] <;> rfl) ?_)
  refine Run.gop (by simp only [go_sem] <;> rfl) (by simp only [go_sem, inD] <;> rfl) (by simp only [go_sem] <;> rfl) ?_
  refine Run.gop (by simp only [go_sem] <;> rfl) (by simp only [go_sem, inD] <;> rfl) (by simp only [go_sem] <;> rfl) ?_
  refine Run.gop (by simp only [go_sem] <;> rfl) (by simp only [go_sem, inD] <;> rfl) (by simp only [go_sem] <;> rfl) ?_
  iterate 2 (refine Run.op (by simp only [go_sem, inD] <;> rfl) (by simp only [go_sem] <;> rfl) ?_)
  refine Run.nil ?_
  exact Ends.fin [] (rs := [.tmp 6]) rfl (by simp only [go_sem, inD] <;> rfl) (by simp only [go_sem, inD] <;> first | rfl | ((repeat' (first | with_reducible_and_instances rfl | refine st_eq ?_ ?_ ?_ | refine ret_eq ?_ | refine tup_eq ?_ | refine tm_eq ?_ ?_ | refine arr_eq ?_ | refine cells_eq ?_ | refine val_eq ?_ | refine ls_eq ?_ ?_ | refine own_eq ?_ ?_ | refine sl_eq ?_ | refine b_eq ?_ | (refine i_eq ?_; omega))); done))

set_option maxRecDepth 20000 in
/-- meterworks/drum.turnOf -/
theorem c_drum_turnOf (n : Int) (h : 0 ≤ n ∧ n ≤ 6) : Contract Try.prog 29 [.int n] (.int (turnD n)) [] := by
  refine con_of follows_mixed Try.func29 rfl (by simp only [List.length_cons, List.length_nil, Try.ntmps29]; omega) (by kernel_rfl) rfl ?_
  refine Exec.reg ?_
  refine Run.op (by simp only [go_sem] <;> rfl) (by simp only [go_sem] <;> rfl) ?_
  refine Run.nil ?_
  refine Exec.reg ?_
  refine Run.op (by simp only [go_sem] <;> rfl) (by simp only [go_sem] <;> rfl) ?_
  refine Run.nil ?_
  refine Exec.assocS ?_
  refine Exec.reg ?_
  iterate 2 (refine Run.op (by simp only [go_sem] <;> rfl) (by simp only [go_sem] <;> rfl) ?_)
  refine Run.nil ?_
  refine Exec.blk ?_
  refine Exec.forA [3, 4, 5] [] (n.toNat) (fun k => [.slot 3 (.int (1000 * pow10 k)), .slot 5 (.int k)]) (fun _ => True) (fun k => by simp only [go_sem] <;> rfl) (by simp only [go_sem, Int.natCast_zero, pow10_zero] <;> rfl) ?_ (fun k hk hX => ?_)
  · trivial
  · skip
    refine Exec.reg ?_
    refine Run.op (by simp only [go_sem] <;> rfl) (by simp only [go_sem] <;> rfl) ?_
    refine Run.nil ?_
    refine Exec.cndS (by simp only [go_sem] <;> rfl) (fun hb6 => ?_) (fun hb6 => ?_)
    · skip
      have hlt : (k : Int) < n := of_decide_eq_true hb6
      have hp := pow_le6 (k := k) (by omega)
      have hs := pow10_succ k
      refine Exec.skipS ?_
      refine Exec.blk ?_
      refine Exec.reg1 ?_
      refine Run.op (by simp only [go_sem] <;> rfl) (by simp only [go_sem] <;> rfl) ?_
      refine Run.op (by simp only [go_sem]; (try simp (disch := omega) only [IntWalk.i64_in, IntWalk.u64_in, if_neg, if_pos])<;> rfl) (by simp only [go_sem] <;> rfl) ?_
      refine Run.op (by simp only [go_sem] <;> rfl) (by simp only [go_sem] <;> rfl) ?_
      refine Run.nil ?_
      refine BlkK.nrm ?_
      refine Exec.reg1 ?_
      refine Run.op (by simp only [go_sem]; (try simp (disch := omega) only [IntWalk.i64_in, IntWalk.u64_in, if_neg, if_pos])<;> rfl) (by simp only [go_sem] <;> rfl) ?_
      refine Run.op (by simp only [go_sem] <;> rfl) (by simp only [go_sem] <;> rfl) ?_
      refine Run.nil ?_
      refine ForK.nxt ?_ ?_ ?_
      · omega
      · exact Ghost.kp [3, 4, 5] [] (by simp only [go_sem]; first | ((repeat' (first | with_reducible_and_instances rfl | refine st_eq ?_ ?_ ?_ | refine ret_eq ?_ | refine tup_eq ?_ | refine tm_eq ?_ ?_ | refine arr_eq ?_ | refine cells_eq ?_ | refine val_eq ?_ | refine ls_eq ?_ ?_ | refine own_eq ?_ ?_ | refine sl_eq ?_ | refine b_eq ?_ | (refine i_eq ?_; omega))); done) | rfl)
      · trivial
    · skip
      have hge : ¬ (k : Int) < n := of_decide_eq_false hb6
      have hke : k = n.toNat := by omega
      subst hke
      have e : turnD n = 1000 * pow10 n.toNat := rfl
      refine Exec.exitS ?_
      refine ForK.ext ?_
      refine BlkK.hit ?_
      refine Exec.reg ?_
      iterate 2 (refine Run.op (by simp only [go_sem, e] <;> rfl) (by simp only [go_sem] <;> rfl) ?_)
      refine Run.nil ?_
      exact Ends.fin [] (rs := [.tmp 2]) rfl (by simp only [go_sem, e] <;> rfl) (by simp only [go_sem, e] <;> first | rfl | ((repeat' (first | with_reducible_and_instances rfl | refine st_eq ?_ ?_ ?_ | refine ret_eq ?_ | refine tup_eq ?_ | refine tm_eq ?_ ?_ | refine arr_eq ?_ | refine cells_eq ?_ | refine val_eq ?_ | refine ls_eq ?_ ?_ | refine own_eq ?_ ?_ | refine sl_eq ?_ | refine b_eq ?_ | (refine i_eq ?_; omega))); done))

set_option maxRecDepth 20000 in
/-- meterworks/meterworksref02.Power -/
theorem c_meterworksref02_Power (n : Int) (h : 0 ≤ n ∧ n ≤ 6) : Contract Try.prog 48 [.int n] (.int (pow10 n.toNat)) [] := by
  refine con_of follows_mixed Try.func48 rfl (by simp only [List.length_cons, List.length_nil, Try.ntmps48]; omega) (by kernel_rfl) rfl ?_
  refine Exec.reg ?_
  refine Run.op (by simp only [go_sem] <;> rfl) (by simp only [go_sem] <;> rfl) ?_
  refine Run.nil ?_
  refine Exec.reg ?_
  refine Run.op (by simp only [go_sem] <;> rfl) (by simp only [go_sem] <;> rfl) ?_
  refine Run.nil ?_
  refine Exec.assocS ?_
  refine Exec.reg ?_
  refine Run.op (by simp only [go_sem] <;> rfl) (by simp only [go_sem] <;> rfl) ?_
  refine Run.nil ?_
  refine Exec.blk ?_
  refine Exec.forA [0, 3, 4] [] (n.toNat) (fun k => [.slot 3 (.int (pow10 k)), .slot 4 (.int k)]) (fun _ => True) (fun k => by simp only [go_sem] <;> rfl) (by simp only [go_sem, Int.natCast_zero, pow10_zero] <;> rfl) ?_ (fun k hk hX => ?_)
  · trivial
  · skip
    refine Exec.assocS ?_
    refine Exec.reg ?_
    iterate 3 (refine Run.op (by simp only [go_sem] <;> rfl) (by simp only [go_sem] <;> rfl) ?_)
    refine Run.nil ?_
    refine Exec.cndS (by simp only [go_sem] <;> rfl) (fun hb7 => ?_) (fun hb7 => ?_)
    · skip
      have hlt : (k : Int) < n := of_decide_eq_true hb7
      have hp := pow_le6 (k := k) (by omega)
      have hs := pow10_succ k
      refine Exec.skipS ?_
      refine Exec.blk ?_
      refine Exec.reg1 ?_
      refine Run.op (by simp only [go_sem] <;> rfl) (by simp only [go_sem] <;> rfl) ?_
      refine Run.op (by simp only [go_sem]; (try simp (disch := omega) only [IntWalk.i64_in, IntWalk.u64_in, if_neg, if_pos])<;> rfl) (by simp only [go_sem] <;> rfl) ?_
      refine Run.op (by simp only [go_sem] <;> rfl) (by simp only [go_sem] <;> rfl) ?_
      refine Run.nil ?_
      refine BlkK.nrm ?_
      refine Exec.reg1 ?_
      refine Run.op (by simp only [go_sem] <;> rfl) (by simp only [go_sem] <;> rfl) ?_
      refine Run.op (by simp only [go_sem]; (try simp (disch := omega) only [IntWalk.i64_in, IntWalk.u64_in, if_neg, if_pos])<;> rfl) (by simp only [go_sem] <;> rfl) ?_
      refine Run.op (by simp only [go_sem] <;> rfl) (by simp only [go_sem] <;> rfl) ?_
      refine Run.nil ?_
      refine ForK.nxt ?_ ?_ ?_
      · omega
      · exact Ghost.kp [0, 3, 4] [] (by simp only [go_sem]; first | ((repeat' (first | with_reducible_and_instances rfl | refine st_eq ?_ ?_ ?_ | refine ret_eq ?_ | refine tup_eq ?_ | refine tm_eq ?_ ?_ | refine arr_eq ?_ | refine cells_eq ?_ | refine val_eq ?_ | refine ls_eq ?_ ?_ | refine own_eq ?_ ?_ | refine sl_eq ?_ | refine b_eq ?_ | (refine i_eq ?_; omega))); done) | rfl)
      · trivial
    · skip
      have hge : ¬ (k : Int) < n := of_decide_eq_false hb7
      have hke : k = n.toNat := by omega
      subst hke
      refine Exec.exitS ?_
      refine ForK.ext ?_
      refine BlkK.hit ?_
      refine Exec.reg ?_
      iterate 2 (refine Run.op (by simp only [go_sem] <;> rfl) (by simp only [go_sem] <;> rfl) ?_)
      refine Run.nil ?_
      exact Ends.fin [] (rs := [.tmp 2]) rfl (by simp only [go_sem] <;> rfl) (by simp only [go_sem] <;> first | rfl | ((repeat' (first | with_reducible_and_instances rfl | refine st_eq ?_ ?_ ?_ | refine ret_eq ?_ | refine tup_eq ?_ | refine tm_eq ?_ ?_ | refine arr_eq ?_ | refine cells_eq ?_ | refine val_eq ?_ | refine ls_eq ?_ ?_ | refine own_eq ?_ ?_ | refine sl_eq ?_ | refine b_eq ?_ | (refine i_eq ?_; omega))); done))

set_option maxRecDepth 20000 in
/-- meterworks/meterworksref02.Turn -/
theorem c_meterworksref02_Turn (n : Int) (h : 0 ≤ n ∧ n ≤ 6) : Contract Try.prog 24 [.int n] (.int (turnD n)) [] := by
  have hp := pow_le6 (k := n.toNat) (by omega)
  have e : turnD n = 1000 * pow10 n.toNat := rfl
  refine con_of follows_mixed Try.func24 rfl (by simp only [List.length_cons, List.length_nil, Try.ntmps24]; omega) (by kernel_rfl) rfl ?_
  refine Exec.reg ?_
  refine Run.op (by simp only [go_sem, e] <;> rfl) (by simp only [go_sem] <;> rfl) ?_
  refine Run.nil ?_
  refine Exec.reg ?_
  refine Run.op (by simp only [go_sem, e] <;> rfl) (by simp only [go_sem] <;> rfl) ?_
  refine Run.cal (c_meterworksref02_Power n h) (by simp only [go_sem]) (by simp only [go_sem, e] <;> rfl) (by exact ⟨by first | exact WkR.pure rfl | exact WkR.nil _ | exact WkR.int (by first | omega | (simp; done) | (simp; omega)), trivial⟩) (fr0) (by simp only [go_sem, e] <;> rfl) ?_
  refine Run.op (by simp only [go_sem, e]; (try simp (disch := omega) only [IntWalk.i64_in, IntWalk.u64_in, if_neg, if_pos])<;> rfl) (by simp only [go_sem] <;> rfl) ?_
  refine Run.op (by simp only [go_sem, e] <;> rfl) (by simp only [go_sem] <;> rfl) ?_
  refine Run.nil ?_
  exact Ends.fin [] (rs := [.tmp 2]) rfl (by simp only [go_sem, e] <;> rfl) (by simp only [go_sem, e] <;> first | rfl | ((repeat' (first | with_reducible_and_instances rfl | refine st_eq ?_ ?_ ?_ | refine ret_eq ?_ | refine tup_eq ?_ | refine tm_eq ?_ ?_ | refine arr_eq ?_ | refine cells_eq ?_ | refine val_eq ?_ | refine ls_eq ?_ ?_ | refine own_eq ?_ ?_ | refine sl_eq ?_ | refine b_eq ?_ | (refine i_eq ?_; omega))); done))

set_option maxRecDepth 20000 in
/-- meterworks/meterworksref02.Register -/
theorem c_meterworksref02_Register (r : Reg) : Contract Try.prog 20 [regV r] (.bool (regB r)) [] := by
  refine con_of follows_mixed Try.func20 rfl (by simp only [List.length_cons, List.length_nil, Try.ntmps20]; omega) (by kernel_rfl) rfl ?_
  refine Exec.reg ?_
  iterate 2 (refine Run.op (by simp only [go_sem] <;> rfl) (by simp only [go_sem] <;> rfl) ?_)
  refine Run.nil ?_
  by_cases hin : inD r.drums 1 6 = true
  · skip
    have hd : 0 ≤ r.drums ∧ r.drums ≤ 6 := by have := inD_iff.1 hin; omega
    have hb := turn_bnd hd.2
    have e : regB r = inD r.start 0 (turnD r.drums - 1) := by unfold regB; rw [hin, Bool.true_and]
    refine Exec.opk 15 ?_
    refine OpenK.op (by simp only [go_sem, hin, e] <;> rfl) (by simp only [go_sem] <;> rfl) (by simp only [go_sem] <;> rfl) ?_
    refine OpenK.op (by simp only [go_sem, hin, e] <;> rfl) (by simp only [go_sem] <;> rfl) (by simp only [go_sem] <;> rfl) ?_
    refine OpenK.cal (c_meterworksref02_in _ _ _) (by simp only [go_sem]) (by simp only [go_sem, hin, e] <;> rfl) (by exact ⟨by first | exact WkR.pure rfl | exact WkR.nil _ | exact WkR.int (by first | omega | (simp; done) | (simp; omega)), by first | exact WkR.pure rfl | exact WkR.nil _ | exact WkR.int (by first | omega | (simp; done) | (simp; omega)), by first | exact WkR.pure rfl | exact WkR.nil _ | exact WkR.int (by first | omega | (simp; done) | (simp; omega)), trivial⟩) (fr0) (by simp only [go_sem, hin, e] <;> rfl) (by simp only [go_sem] <;> rfl) (by simp only [go_sem] <;> rfl) ?_
    refine OpenK.op (by simp only [go_sem, hin, e] <;> rfl) (by simp only [go_sem] <;> rfl) (by simp only [go_sem] <;> rfl) ?_
    refine OpenK.yes (by simp only [go_sem] <;> rfl) (by simp only [go_sem, hin, e] <;> rfl) (by simp only [go_sem] <;> rfl) (by simp only [go_sem] <;> rfl) ?_
    refine OpenK.yes (by simp only [go_sem] <;> rfl) (by simp only [go_sem, hin, e] <;> rfl) (by simp only [go_sem] <;> rfl) (by simp only [go_sem] <;> rfl) ?_
    refine OpenK.yes (by simp only [go_sem] <;> rfl) (by simp only [go_sem, hin, e] <;> rfl) (by simp only [go_sem] <;> rfl) (by simp only [go_sem] <;> rfl) ?_
    refine OpenK.yes (by simp only [go_sem] <;> rfl) (by simp only [go_sem, hin, e] <;> rfl) (by simp only [go_sem] <;> rfl) (by simp only [go_sem] <;> rfl) ?_
    refine OpenK.calw (by simp only [go_sem] <;> rfl) (c_meterworksref02_Turn r.drums hd) (by simp only [go_sem]) (by simp only [go_sem, hin, e] <;> rfl) (by simp only [go_sem, hin, e] <;> rfl) (by exact ⟨by first | exact WkR.pure rfl | exact WkR.nil _ | exact WkR.int (by first | omega | (simp; done) | (simp; omega)), trivial⟩) (fr0) (by simp only [go_sem, hin, e] <;> rfl) (by simp only [go_sem] <;> rfl) (by simp only [go_sem] <;> rfl) ?_
    refine OpenK.yes (by simp only [go_sem] <;> rfl) (by simp only [go_sem, hin, e]; (try simp (disch := omega) only [IntWalk.i64_in, IntWalk.u64_in, if_neg, if_pos])<;> rfl) (by simp only [go_sem] <;> rfl) (by simp only [go_sem] <;> rfl) ?_
    refine OpenK.calw (by simp only [go_sem] <;> rfl) (c_meterworksref02_in _ _ _) (by simp only [go_sem]) (by simp only [go_sem, hin, e] <;> rfl) (by simp only [go_sem, hin, e] <;> rfl) (by exact ⟨by first | exact WkR.pure rfl | exact WkR.nil _ | exact WkR.int (by first | omega | (simp; done) | (simp; omega)), by first | exact WkR.pure rfl | exact WkR.nil _ | exact WkR.int (by first | omega | (simp; done) | (simp; omega)), by first | exact WkR.pure rfl | exact WkR.nil _ | exact WkR.int (by first | omega | (simp; done) | (simp; omega)), trivial⟩) (fr0) (by simp only [go_sem, hin, e] <;> rfl) (by simp only [go_sem] <;> rfl) (by simp only [go_sem] <;> rfl) ?_
    refine OpenK.op (by simp only [go_sem, hin, e] <;> rfl) (by simp only [go_sem] <;> rfl) (by simp only [go_sem] <;> rfl) ?_
    refine OpenK.op (by simp only [go_sem, hin, e] <;> rfl) (by simp only [go_sem] <;> rfl) (by simp only [go_sem] <;> rfl) ?_
    refine OpenK.nil (OpenE.fin (by decide +kernel) (by decide +kernel) ?_)
    exact Ends.fin [] (rs := [.tmp 2]) rfl (by simp only [go_sem, hin, e] <;> rfl) (by simp only [go_sem, hin, e] <;> first | rfl | ((repeat' (first | with_reducible_and_instances rfl | refine st_eq ?_ ?_ ?_ | refine ret_eq ?_ | refine tup_eq ?_ | refine tm_eq ?_ ?_ | refine arr_eq ?_ | refine cells_eq ?_ | refine val_eq ?_ | refine ls_eq ?_ ?_ | refine own_eq ?_ ?_ | refine sl_eq ?_ | refine b_eq ?_ | (refine i_eq ?_; omega))); done))
  · skip
    have hin2 : inD r.drums 1 6 = false := by simpa using hin
    have e : regB r = false := by unfold regB; rw [hin2, Bool.false_and]
    refine Exec.opk 15 ?_
    refine OpenK.op (by simp only [go_sem, hin2, e] <;> rfl) (by simp only [go_sem] <;> rfl) (by simp only [go_sem] <;> rfl) ?_
    refine OpenK.op (by simp only [go_sem, hin2, e] <;> rfl) (by simp only [go_sem] <;> rfl) (by simp only [go_sem] <;> rfl) ?_
    refine OpenK.cal (c_meterworksref02_in _ _ _) (by simp only [go_sem]) (by simp only [go_sem, hin2, e] <;> rfl) (by exact ⟨by first | exact WkR.pure rfl | exact WkR.nil _ | exact WkR.int (by first | omega | (simp; done) | (simp; omega)), by first | exact WkR.pure rfl | exact WkR.nil _ | exact WkR.int (by first | omega | (simp; done) | (simp; omega)), by first | exact WkR.pure rfl | exact WkR.nil _ | exact WkR.int (by first | omega | (simp; done) | (simp; omega)), trivial⟩) (fr0) (by simp only [go_sem, hin2, e] <;> rfl) (by simp only [go_sem] <;> rfl) (by simp only [go_sem] <;> rfl) ?_
    refine OpenK.op (by simp only [go_sem, hin2, e] <;> rfl) (by simp only [go_sem] <;> rfl) (by simp only [go_sem] <;> rfl) ?_
    refine OpenK.skp (by simp only [go_sem] <;> rfl) (by simp only [go_sem] <;> rfl) (by simp only [go_sem] <;> rfl) ?_
    refine OpenK.skp (by simp only [go_sem] <;> rfl) (by simp only [go_sem] <;> rfl) (by simp only [go_sem] <;> rfl) ?_
    refine OpenK.skp (by simp only [go_sem] <;> rfl) (by simp only [go_sem] <;> rfl) (by simp only [go_sem] <;> rfl) ?_
    refine OpenK.skp (by simp only [go_sem] <;> rfl) (by simp only [go_sem] <;> rfl) (by simp only [go_sem] <;> rfl) ?_
    refine OpenK.skp (by simp only [go_sem] <;> rfl) (by simp only [go_sem] <;> rfl) (by simp only [go_sem] <;> rfl) ?_
    refine OpenK.skp (by simp only [go_sem] <;> rfl) (by simp only [go_sem] <;> rfl) (by simp only [go_sem] <;> rfl) ?_
    refine OpenK.skp (by simp only [go_sem] <;> rfl) (by simp only [go_sem] <;> rfl) (by simp only [go_sem] <;> rfl) ?_
    refine OpenK.op (by simp only [go_sem, hin2, e] <;> rfl) (by simp only [go_sem] <;> rfl) (by simp only [go_sem] <;> rfl) ?_
    refine OpenK.op (by simp only [go_sem, hin2, e] <;> rfl) (by simp only [go_sem] <;> rfl) (by simp only [go_sem] <;> rfl) ?_
    refine OpenK.nil (OpenE.fin (by decide +kernel) (by decide +kernel) ?_)
    exact Ends.fin [] (rs := [.tmp 2]) rfl (by simp only [go_sem, hin2, e] <;> rfl) (by simp only [go_sem, hin2, e] <;> first | rfl | ((repeat' (first | with_reducible_and_instances rfl | refine st_eq ?_ ?_ ?_ | refine ret_eq ?_ | refine tup_eq ?_ | refine tm_eq ?_ ?_ | refine arr_eq ?_ | refine cells_eq ?_ | refine val_eq ?_ | refine ls_eq ?_ ?_ | refine own_eq ?_ ?_ | refine sl_eq ?_ | refine b_eq ?_ | (refine i_eq ?_; omega))); done))

set_option maxRecDepth 20000 in
/-- meterworks/drum.isRegister -/
theorem c_drum_isRegister (r : Reg) : Contract Try.prog 27 [regV r] (.bool (regB r)) [] := by
  refine con_of follows_mixed Try.func27 rfl (by simp only [List.length_cons, List.length_nil, Try.ntmps27]; omega) (by kernel_rfl) rfl ?_
  refine Exec.reg ?_
  iterate 2 (refine Run.op (by simp only [go_sem] <;> rfl) (by simp only [go_sem] <;> rfl) ?_)
  refine Run.nil ?_
  by_cases hin : inD r.drums 1 6 = true
  · skip
    have hd : 0 ≤ r.drums ∧ r.drums ≤ 6 := by have := inD_iff.1 hin; omega
    have hb := turn_bnd hd.2
    have e : regB r = inD r.start 0 (turnD r.drums - 1) := by unfold regB; rw [hin, Bool.true_and]
    refine Exec.opk 15 ?_
    refine OpenK.op (by simp only [go_sem, hin, e] <;> rfl) (by simp only [go_sem] <;> rfl) (by simp only [go_sem] <;> rfl) ?_
    refine OpenK.op (by simp only [go_sem, hin, e] <;> rfl) (by simp only [go_sem] <;> rfl) (by simp only [go_sem] <;> rfl) ?_
    refine OpenK.cal (c_drum_within _ _ _) (by simp only [go_sem]) (by simp only [go_sem, hin, e] <;> rfl) (by exact ⟨by first | exact WkR.pure rfl | exact WkR.nil _ | exact WkR.int (by first | omega | (simp; done) | (simp; omega)), by first | exact WkR.pure rfl | exact WkR.nil _ | exact WkR.int (by first | omega | (simp; done) | (simp; omega)), by first | exact WkR.pure rfl | exact WkR.nil _ | exact WkR.int (by first | omega | (simp; done) | (simp; omega)), trivial⟩) (fr0) (by simp only [go_sem, hin, e] <;> rfl) (by simp only [go_sem] <;> rfl) (by simp only [go_sem] <;> rfl) ?_
    refine OpenK.op (by simp only [go_sem, hin, e] <;> rfl) (by simp only [go_sem] <;> rfl) (by simp only [go_sem] <;> rfl) ?_
    refine OpenK.yes (by simp only [go_sem] <;> rfl) (by simp only [go_sem, hin, e] <;> rfl) (by simp only [go_sem] <;> rfl) (by simp only [go_sem] <;> rfl) ?_
    refine OpenK.yes (by simp only [go_sem] <;> rfl) (by simp only [go_sem, hin, e] <;> rfl) (by simp only [go_sem] <;> rfl) (by simp only [go_sem] <;> rfl) ?_
    refine OpenK.yes (by simp only [go_sem] <;> rfl) (by simp only [go_sem, hin, e] <;> rfl) (by simp only [go_sem] <;> rfl) (by simp only [go_sem] <;> rfl) ?_
    refine OpenK.yes (by simp only [go_sem] <;> rfl) (by simp only [go_sem, hin, e] <;> rfl) (by simp only [go_sem] <;> rfl) (by simp only [go_sem] <;> rfl) ?_
    refine OpenK.calw (by simp only [go_sem] <;> rfl) (c_drum_turnOf r.drums hd) (by simp only [go_sem]) (by simp only [go_sem, hin, e] <;> rfl) (by simp only [go_sem, hin, e] <;> rfl) (by exact ⟨by first | exact WkR.pure rfl | exact WkR.nil _ | exact WkR.int (by first | omega | (simp; done) | (simp; omega)), trivial⟩) (fr0) (by simp only [go_sem, hin, e] <;> rfl) (by simp only [go_sem] <;> rfl) (by simp only [go_sem] <;> rfl) ?_
    refine OpenK.yes (by simp only [go_sem] <;> rfl) (by simp only [go_sem, hin, e]; (try simp (disch := omega) only [IntWalk.i64_in, IntWalk.u64_in, if_neg, if_pos])<;> rfl) (by simp only [go_sem] <;> rfl) (by simp only [go_sem] <;> rfl) ?_
    refine OpenK.calw (by simp only [go_sem] <;> rfl) (c_drum_within _ _ _) (by simp only [go_sem]) (by simp only [go_sem, hin, e] <;> rfl) (by simp only [go_sem, hin, e] <;> rfl) (by exact ⟨by first | exact WkR.pure rfl | exact WkR.nil _ | exact WkR.int (by first | omega | (simp; done) | (simp; omega)), by first | exact WkR.pure rfl | exact WkR.nil _ | exact WkR.int (by first | omega | (simp; done) | (simp; omega)), by first | exact WkR.pure rfl | exact WkR.nil _ | exact WkR.int (by first | omega | (simp; done) | (simp; omega)), trivial⟩) (fr0) (by simp only [go_sem, hin, e] <;> rfl) (by simp only [go_sem] <;> rfl) (by simp only [go_sem] <;> rfl) ?_
    refine OpenK.op (by simp only [go_sem, hin, e] <;> rfl) (by simp only [go_sem] <;> rfl) (by simp only [go_sem] <;> rfl) ?_
    refine OpenK.op (by simp only [go_sem, hin, e] <;> rfl) (by simp only [go_sem] <;> rfl) (by simp only [go_sem] <;> rfl) ?_
    refine OpenK.nil (OpenE.fin (by decide +kernel) (by decide +kernel) ?_)
    exact Ends.fin [] (rs := [.tmp 2]) rfl (by simp only [go_sem, hin, e] <;> rfl) (by simp only [go_sem, hin, e] <;> first | rfl | ((repeat' (first | with_reducible_and_instances rfl | refine st_eq ?_ ?_ ?_ | refine ret_eq ?_ | refine tup_eq ?_ | refine tm_eq ?_ ?_ | refine arr_eq ?_ | refine cells_eq ?_ | refine val_eq ?_ | refine ls_eq ?_ ?_ | refine own_eq ?_ ?_ | refine sl_eq ?_ | refine b_eq ?_ | (refine i_eq ?_; omega))); done))
  · skip
    have hin2 : inD r.drums 1 6 = false := by simpa using hin
    have e : regB r = false := by unfold regB; rw [hin2, Bool.false_and]
    refine Exec.opk 15 ?_
    refine OpenK.op (by simp only [go_sem, hin2, e] <;> rfl) (by simp only [go_sem] <;> rfl) (by simp only [go_sem] <;> rfl) ?_
    refine OpenK.op (by simp only [go_sem, hin2, e] <;> rfl) (by simp only [go_sem] <;> rfl) (by simp only [go_sem] <;> rfl) ?_
    refine OpenK.cal (c_drum_within _ _ _) (by simp only [go_sem]) (by simp only [go_sem, hin2, e] <;> rfl) (by exact ⟨by first | exact WkR.pure rfl | exact WkR.nil _ | exact WkR.int (by first | omega | (simp; done) | (simp; omega)), by first | exact WkR.pure rfl | exact WkR.nil _ | exact WkR.int (by first | omega | (simp; done) | (simp; omega)), by first | exact WkR.pure rfl | exact WkR.nil _ | exact WkR.int (by first | omega | (simp; done) | (simp; omega)), trivial⟩) (fr0) (by simp only [go_sem, hin2, e] <;> rfl) (by simp only [go_sem] <;> rfl) (by simp only [go_sem] <;> rfl) ?_
    refine OpenK.op (by simp only [go_sem, hin2, e] <;> rfl) (by simp only [go_sem] <;> rfl) (by simp only [go_sem] <;> rfl) ?_
    refine OpenK.skp (by simp only [go_sem] <;> rfl) (by simp only [go_sem] <;> rfl) (by simp only [go_sem] <;> rfl) ?_
    refine OpenK.skp (by simp only [go_sem] <;> rfl) (by simp only [go_sem] <;> rfl) (by simp only [go_sem] <;> rfl) ?_
    refine OpenK.skp (by simp only [go_sem] <;> rfl) (by simp only [go_sem] <;> rfl) (by simp only [go_sem] <;> rfl) ?_
    refine OpenK.skp (by simp only [go_sem] <;> rfl) (by simp only [go_sem] <;> rfl) (by simp only [go_sem] <;> rfl) ?_
    refine OpenK.skp (by simp only [go_sem] <;> rfl) (by simp only [go_sem] <;> rfl) (by simp only [go_sem] <;> rfl) ?_
    refine OpenK.skp (by simp only [go_sem] <;> rfl) (by simp only [go_sem] <;> rfl) (by simp only [go_sem] <;> rfl) ?_
    refine OpenK.skp (by simp only [go_sem] <;> rfl) (by simp only [go_sem] <;> rfl) (by simp only [go_sem] <;> rfl) ?_
    refine OpenK.op (by simp only [go_sem, hin2, e] <;> rfl) (by simp only [go_sem] <;> rfl) (by simp only [go_sem] <;> rfl) ?_
    refine OpenK.op (by simp only [go_sem, hin2, e] <;> rfl) (by simp only [go_sem] <;> rfl) (by simp only [go_sem] <;> rfl) ?_
    refine OpenK.nil (OpenE.fin (by decide +kernel) (by decide +kernel) ?_)
    exact Ends.fin [] (rs := [.tmp 2]) rfl (by simp only [go_sem, hin2, e] <;> rfl) (by simp only [go_sem, hin2, e] <;> first | rfl | ((repeat' (first | with_reducible_and_instances rfl | refine st_eq ?_ ?_ ?_ | refine ret_eq ?_ | refine tup_eq ?_ | refine tm_eq ?_ ?_ | refine arr_eq ?_ | refine cells_eq ?_ | refine val_eq ?_ | refine ls_eq ?_ ?_ | refine own_eq ?_ ?_ | refine sl_eq ?_ | refine b_eq ?_ | (refine i_eq ?_; omega))); done))

set_option maxRecDepth 20000 in
/-- meterworks/meterworksref02.modulo -/
theorem c_meterworksref02_modulo (a n : Int) (hn : 0 < n ∧ n ≤ 1000000000) (ha : -1000000000000000 ≤ a ∧ a ≤ 1000000000000000) : Contract Try.prog 38 [.int a, .int n] (.int (a % n)) [] := by
  have hz : ¬ n = 0 := by omega
  have h1 := tmod_c (a := a) hn.1
  have h2 := Int.emod_nonneg a hz
  have h3 := Int.emod_lt_of_pos a hn.1
  have h4 : -n ≤ a.tmod n ∧ a.tmod n < n := by split at h1 <;> omega
  have e := mod_emod (a := a) hn.1
  refine con_of follows_mixed Try.func38 rfl (by simp only [List.length_cons, List.length_nil, Try.ntmps38]; omega) (by kernel_rfl) rfl ?_
  refine Exec.reg ?_
  refine Run.op (by simp only [go_sem, hz, if_false, e] <;> rfl) (by simp only [go_sem] <;> rfl) ?_
  refine Run.nil ?_
  refine Exec.reg ?_
  iterate 2 (refine Run.op (by simp only [go_sem, hz, if_false, e] <;> rfl) (by simp only [go_sem] <;> rfl) ?_)
  refine Run.op (by simp only [go_sem, hz, if_false, e]; (try simp (disch := omega) only [IntWalk.i64_in, IntWalk.u64_in, if_neg, if_pos])<;> rfl) (by simp only [go_sem] <;> rfl) ?_
  refine Run.op (by simp only [go_sem, hz, if_false, e] <;> rfl) (by simp only [go_sem] <;> rfl) ?_
  refine Run.op (by simp only [go_sem, hz, if_false, e]; (try simp (disch := omega) only [IntWalk.i64_in, IntWalk.u64_in, if_neg, if_pos])<;> rfl) (by simp only [go_sem] <;> rfl) ?_
  refine Run.op (by simp only [go_sem, hz, if_false, e] <;> rfl) (by simp only [go_sem] <;> rfl) ?_
  refine Run.op (by simp only [go_sem, hz, if_false, e]; (try simp (disch := omega) only [IntWalk.i64_in, IntWalk.u64_in, if_neg, if_pos])<;> rfl) (by simp only [go_sem] <;> rfl) ?_
  refine Run.op (by simp only [go_sem, hz, if_false, e] <;> rfl) (by simp only [go_sem] <;> rfl) ?_
  refine Run.nil ?_
  exact Ends.fin [] (rs := [.tmp 4]) rfl (by simp only [go_sem, hz, if_false, e] <;> rfl) (by simp only [go_sem, hz, if_false, e] <;> first | rfl | ((repeat' (first | with_reducible_and_instances rfl | refine st_eq ?_ ?_ ?_ | refine ret_eq ?_ | refine tup_eq ?_ | refine tm_eq ?_ ?_ | refine arr_eq ?_ | refine cells_eq ?_ | refine val_eq ?_ | refine ls_eq ?_ ?_ | refine own_eq ?_ ?_ | refine sl_eq ?_ | refine b_eq ?_ | (refine i_eq ?_; omega))); done))

set_option maxRecDepth 20000 in
/-- meterworks/drum.modulo -/
theorem c_drum_modulo (a n : Int) (hn : 0 < n ∧ n ≤ 1000000000) (ha : -1000000000000000 ≤ a ∧ a ≤ 1000000000000000) : Contract Try.prog 35 [.int a, .int n] (.int (a % n)) [] := by
  have hz : ¬ n = 0 := by omega
  have h1 := tmod_c (a := a) hn.1
  have h2 := Int.emod_nonneg a hz
  have h3 := Int.emod_lt_of_pos a hn.1
  have h4 : -n ≤ a.tmod n ∧ a.tmod n < n := by split at h1 <;> omega
  refine con_of follows_mixed Try.func35 rfl (by simp only [List.length_cons, List.length_nil, Try.ntmps35]; omega) (by kernel_rfl) rfl ?_
  refine Exec.reg ?_
  refine Run.op (by simp only [go_sem, hz, if_false] <;> rfl) (by simp only [go_sem] <;> rfl) ?_
  refine Run.nil ?_
  refine Exec.assocS ?_
  refine Exec.reg ?_
  iterate 2 (refine Run.op (by simp only [go_sem, hz, if_false] <;> rfl) (by simp only [go_sem] <;> rfl) ?_)
  refine Run.op (by simp only [go_sem, hz, if_false]; (try simp (disch := omega) only [IntWalk.i64_in, IntWalk.u64_in, if_neg, if_pos])<;> rfl) (by simp only [go_sem] <;> rfl) ?_
  refine Run.op (by simp only [go_sem, hz, if_false] <;> rfl) (by simp only [go_sem] <;> rfl) ?_
  refine Run.nil ?_
  refine Exec.assocS ?_
  refine Exec.reg ?_
  iterate 2 (refine Run.op (by simp only [go_sem, hz, if_false] <;> rfl) (by simp only [go_sem] <;> rfl) ?_)
  refine Run.nil ?_
  refine Exec.cndS (by simp only [go_sem, hz, if_false] <;> rfl) (fun hb9 => ?_) (fun hb9 => ?_)
  · skip
    have e : a.tmod n + n = a % n := by rw [if_pos (of_decide_eq_true hb9)] at h1; exact h1
    refine Exec.reg ?_
    iterate 2 (refine Run.op (by simp only [go_sem, hz, if_false, e] <;> rfl) (by simp only [go_sem] <;> rfl) ?_)
    refine Run.op (by simp only [go_sem, hz, if_false, e]; (try simp (disch := omega) only [IntWalk.i64_in, IntWalk.u64_in, if_neg, if_pos])<;> rfl) (by simp only [go_sem] <;> rfl) ?_
    refine Run.op (by simp only [go_sem, hz, if_false, e] <;> rfl) (by simp only [go_sem] <;> rfl) ?_
    refine Run.nil ?_
    refine Exec.reg ?_
    iterate 2 (refine Run.op (by simp only [go_sem, hz, if_false, e] <;> rfl) (by simp only [go_sem] <;> rfl) ?_)
    refine Run.nil ?_
    exact Ends.fin [] (rs := [.tmp 4]) rfl (by simp only [go_sem, hz, if_false, e] <;> rfl) (by simp only [go_sem, hz, if_false, e] <;> first | rfl | ((repeat' (first | with_reducible_and_instances rfl | refine st_eq ?_ ?_ ?_ | refine ret_eq ?_ | refine tup_eq ?_ | refine tm_eq ?_ ?_ | refine arr_eq ?_ | refine cells_eq ?_ | refine val_eq ?_ | refine ls_eq ?_ ?_ | refine own_eq ?_ ?_ | refine sl_eq ?_ | refine b_eq ?_ | (refine i_eq ?_; omega))); done))
  · skip
    have e : a.tmod n = a % n := by rw [if_neg (of_decide_eq_false hb9)] at h1; exact h1
    refine Exec.skipS ?_
    refine Exec.reg ?_
    iterate 2 (refine Run.op (by simp only [go_sem, hz, if_false, e] <;> rfl) (by simp only [go_sem] <;> rfl) ?_)
    refine Run.nil ?_
    exact Ends.fin [] (rs := [.tmp 4]) rfl (by simp only [go_sem, hz, if_false, e] <;> rfl) (by simp only [go_sem, hz, if_false, e] <;> first | rfl | ((repeat' (first | with_reducible_and_instances rfl | refine st_eq ?_ ?_ ?_ | refine ret_eq ?_ | refine tup_eq ?_ | refine tm_eq ?_ ?_ | refine arr_eq ?_ | refine cells_eq ?_ | refine val_eq ?_ | refine ls_eq ?_ ?_ | refine own_eq ?_ ?_ | refine sl_eq ?_ | refine b_eq ?_ | (refine i_eq ?_; omega))); done))

set_option maxRecDepth 20000 in
/-- (meterworks/drum.place).carry -/
theorem c_drum_place_carry (p : Int) (h : 0 ≤ p ∧ p ≤ 9999) : Contract Try.prog 58 [.int p] (.int (max 0 (p - 9000))) [] := by
  refine con_of follows_mixed Try.func58 rfl (by simp only [List.length_cons, List.length_nil, Try.ntmps58]; omega) (by kernel_rfl) rfl ?_
  refine Exec.reg ?_
  refine Run.op (by simp only [go_sem, pick_max] <;> rfl) (by simp only [go_sem] <;> rfl) ?_
  refine Run.nil ?_
  refine Exec.reg ?_
  refine Run.op (by simp only [go_sem, pick_max] <;> rfl) (by simp only [go_sem] <;> rfl) ?_
  refine Run.op (by simp only [go_sem, pick_max]; (try simp (disch := omega) only [IntWalk.i64_in, IntWalk.u64_in, if_neg, if_pos])<;> rfl) (by simp only [go_sem] <;> rfl) ?_
  iterate 2 (refine Run.op (by simp only [go_sem, pick_max] <;> rfl) (by simp only [go_sem] <;> rfl) ?_)
  refine Run.nil ?_
  exact Ends.fin [] (rs := [.tmp 2]) rfl (by simp only [go_sem, pick_max] <;> rfl) (by simp only [go_sem, pick_max] <;> first | rfl | ((repeat' (first | with_reducible_and_instances rfl | refine st_eq ?_ ?_ ?_ | refine ret_eq ?_ | refine tup_eq ?_ | refine tm_eq ?_ ?_ | refine arr_eq ?_ | refine cells_eq ?_ | refine val_eq ?_ | refine ls_eq ?_ ?_ | refine own_eq ?_ ?_ | refine sl_eq ?_ | refine b_eq ?_ | (refine i_eq ?_; omega))); done))

set_option maxRecDepth 20000 in
/-- (meterworks/drum.place).number -/
theorem c_drum_place_number (p : Int) : Contract Try.prog 31 [.int p] (.int p) [] := by
  refine con_of follows_mixed Try.func31 rfl (by simp only [List.length_cons, List.length_nil, Try.ntmps31]; omega) (by kernel_rfl) rfl ?_
  refine Exec.reg ?_
  refine Run.op (by simp only [go_sem] <;> rfl) (by simp only [go_sem] <;> rfl) ?_
  refine Run.nil ?_
  refine Exec.reg ?_
  iterate 2 (refine Run.op (by simp only [go_sem] <;> rfl) (by simp only [go_sem] <;> rfl) ?_)
  refine Run.nil ?_
  exact Ends.fin [] (rs := [.tmp 2]) rfl (by simp only [go_sem] <;> rfl) (by simp only [go_sem] <;> first | rfl | ((repeat' (first | with_reducible_and_instances rfl | refine st_eq ?_ ?_ ?_ | refine ret_eq ?_ | refine tup_eq ?_ | refine tm_eq ?_ ?_ | refine arr_eq ?_ | refine cells_eq ?_ | refine val_eq ?_ | refine ls_eq ?_ ?_ | refine own_eq ?_ ?_ | refine sl_eq ?_ | refine b_eq ?_ | (refine i_eq ?_; omega))); done))

set_option maxRecDepth 20000 in
/-- (meterworks/drum.place).figure -/
theorem c_drum_place_figure (p : Int) (h : 0 ≤ p ∧ p ≤ 9999) : Contract Try.prog 36 [.int p] (.int (figD p)) [] := by
  have e1 : (p + 500).tdiv 1000 = (p + 500) / 1000 := tdiv_e (by omega)
  have e2 : ((p + 500) / 1000).tmod 10 = (p + 500) / 1000 % 10 := tmod_e (by omega)
  have e3 : figD p = (p + 500) / 1000 % 10 := rfl
  refine con_of follows_mixed Try.func36 rfl (by simp only [List.length_cons, List.length_nil, Try.ntmps36]; omega) (by kernel_rfl) rfl ?_
  refine Exec.reg ?_
  refine Run.op (by simp only [go_sem, e1, e2, e3] <;> rfl) (by simp only [go_sem] <;> rfl) ?_
  refine Run.nil ?_
  refine Exec.reg ?_
  refine Run.op (by simp only [go_sem, e1, e2, e3] <;> rfl) (by simp only [go_sem] <;> rfl) ?_
  refine Run.op (by simp only [go_sem, e1, e2, e3]; (try simp (disch := omega) only [IntWalk.i64_in, IntWalk.u64_in, if_neg, if_pos])<;> rfl) (by simp only [go_sem] <;> rfl) ?_
  refine Run.op (by simp only [go_sem, e1, e2, e3]; (try simp (disch := omega) only [IntWalk.i64_in, IntWalk.u64_in, if_neg, if_pos])<;> rfl) (by simp only [go_sem] <;> rfl) ?_
  refine Run.op (by simp only [go_sem, e1, e2, e3]; (try simp (disch := omega) only [IntWalk.i64_in, IntWalk.u64_in, if_neg, if_pos])<;> rfl) (by simp only [go_sem] <;> rfl) ?_
  refine Run.op (by simp only [go_sem, e1, e2, e3] <;> rfl) (by simp only [go_sem] <;> rfl) ?_
  refine Run.nil ?_
  exact Ends.fin [] (rs := [.tmp 2]) rfl (by simp only [go_sem, e1, e2, e3] <;> rfl) (by simp only [go_sem, e1, e2, e3] <;> first | rfl | ((repeat' (first | with_reducible_and_instances rfl | refine st_eq ?_ ?_ ?_ | refine ret_eq ?_ | refine tup_eq ?_ | refine tm_eq ?_ ?_ | refine arr_eq ?_ | refine cells_eq ?_ | refine val_eq ?_ | refine ls_eq ?_ ?_ | refine own_eq ?_ ?_ | refine sl_eq ?_ | refine b_eq ?_ | (refine i_eq ?_; omega))); done))

set_option maxRecDepth 20000 in
/-- meterworks/meterworksref02.Place -/
theorem c_meterworksref02_Place : ∀ (k : Nat), k ≤ 5 → ∀ (t : Int), 0 ≤ t ∧ t ≤ 2000000000 → Contract Try.prog 39 [.int t, .int (k : Int)] (.int (placeD t k)) [] := by
  intro k
  induction k
  · skip
    intro hk t ht
    have e : t.tmod 10000 = t % 10000 := tmod_e ht.1
    have e2 : placeD t 0 = t % 10000 := rfl
    refine con_of follows_mixed Try.func39 rfl (by simp only [List.length_cons, List.length_nil, Try.ntmps39]; omega) (by kernel_rfl) rfl ?_
    refine Exec.reg ?_
    refine Run.op (by simp only [go_sem, e, e2, Int.natCast_zero] <;> rfl) (by simp only [go_sem] <;> rfl) ?_
    refine Run.nil ?_
    refine Exec.assocS ?_
    refine Exec.reg ?_
    iterate 2 (refine Run.op (by simp only [go_sem, e, e2, Int.natCast_zero] <;> rfl) (by simp only [go_sem] <;> rfl) ?_)
    refine Run.nil ?_
    refine Exec.cndS (by simp only [go_sem, e, e2, Int.natCast_zero] <;> rfl) (fun hb7 => ?_) (fun hb7 => ?_)
    · skip
      refine Exec.assocS ?_
      refine Exec.reg ?_
      refine Run.op (by simp only [go_sem, e, e2, Int.natCast_zero] <;> rfl) (by simp only [go_sem] <;> rfl) ?_
      refine Run.op (by simp only [go_sem, e, e2, Int.natCast_zero]; (try simp (disch := omega) only [IntWalk.i64_in, IntWalk.u64_in, if_neg, if_pos])<;> rfl) (by simp only [go_sem] <;> rfl) ?_
      refine Run.op (by simp only [go_sem, e, e2, Int.natCast_zero] <;> rfl) (by simp only [go_sem] <;> rfl) ?_
      refine Run.nil ?_
      refine Exec.retS ?_
      exact Ends.fin [] (rs := [.tmp 4]) rfl (by simp only [go_sem, e, e2, Int.natCast_zero] <;> rfl) (by simp only [go_sem, e, e2, Int.natCast_zero] <;> first | rfl | ((repeat' (first | with_reducible_and_instances rfl | refine st_eq ?_ ?_ ?_ | refine ret_eq ?_ | refine tup_eq ?_ | refine tm_eq ?_ ?_ | refine arr_eq ?_ | refine cells_eq ?_ | refine val_eq ?_ | refine ls_eq ?_ ?_ | refine own_eq ?_ ?_ | refine sl_eq ?_ | refine b_eq ?_ | (refine i_eq ?_; omega))); done))
    · skip
      exact absurd hb7 (by simp)
  · skip
    rename_i k ih
    intro hk t ht
    have hp := pow_le6 (k := k + 1) (by omega)
    have hz : ¬ 1000 * pow10 (k + 1) = 0 := by omega
    have e1 : t.tdiv (1000 * pow10 (k + 1)) = t / (1000 * pow10 (k + 1)) := tdiv_e ht.1
    have h0 : 0 ≤ t / (1000 * pow10 (k + 1)) := Int.ediv_nonneg ht.1 (by omega)
    have h1 : t / (1000 * pow10 (k + 1)) ≤ t := Int.ediv_le_self _ ht.1
    have e2 : (t / (1000 * pow10 (k + 1))).tmod 10 = t / (1000 * pow10 (k + 1)) % 10 := tmod_e h0
    have e3 : placeD t (k + 1) = 1000 * (t / (1000 * pow10 (k + 1)) % 10) + max 0 (placeD t k - 9000) := rfl
    have hb := place_bnd t k
    have ht1 : (((k + 1 : Nat) : Int)).toNat = k + 1 := Int.toNat_natCast _
    refine con_of follows_mixed Try.func39 rfl (by simp only [List.length_cons, List.length_nil, Try.ntmps39]; omega) (by kernel_rfl) rfl ?_
    refine Exec.reg ?_
    refine Run.op (by simp only [go_sem, hz, if_false, e1, e2, e3, ht1, pick_max] <;> rfl) (by simp only [go_sem] <;> rfl) ?_
    refine Run.nil ?_
    refine Exec.assocS ?_
    refine Exec.reg ?_
    iterate 2 (refine Run.op (by simp only [go_sem, hz, if_false, e1, e2, e3, ht1, pick_max] <;> rfl) (by simp only [go_sem] <;> rfl) ?_)
    refine Run.nil ?_
    refine Exec.cndS (by simp only [go_sem, hz, if_false, e1, e2, e3, ht1, pick_max] <;> rfl) (fun hb7 => ?_) (fun hb7 => ?_)
    · skip
      exfalso
      have : ((k + 1 : Nat) : Int) = 0 := by simpa using hb7
      omega
    · skip
      refine Exec.skipS ?_
      refine Exec.reg ?_
      iterate 2 (refine Run.op (by simp only [go_sem, hz, if_false, e1, e2, e3, ht1, pick_max] <;> rfl) (by simp only [go_sem] <;> rfl) ?_)
      refine Run.op (by simp only [go_sem, hz, if_false, e1, e2, e3, ht1, pick_max]; (try simp (disch := omega) only [IntWalk.i64_in, IntWalk.u64_in, if_neg, if_pos])<;> rfl) (by simp only [go_sem] <;> rfl) ?_
      refine Run.cal (ih (by omega) t ht) (by simp only [go_sem]) (by simp only [go_sem, hz, if_false, e1, e2, e3, ht1, pick_max] <;> rfl) (by exact ⟨by first | exact WkR.pure rfl | exact WkR.nil _ | exact WkR.int (by first | omega | (simp; done) | (simp; omega)), by first | exact WkR.pure rfl | exact WkR.nil _ | exact WkR.int (by first | omega | (simp; done) | (simp; omega)), trivial⟩) (fr0) (by simp only [go_sem, hz, if_false, e1, e2, e3, ht1, pick_max] <;> rfl) ?_
      refine Run.op (by simp only [go_sem, hz, if_false, e1, e2, e3, ht1, pick_max]; (try simp (disch := omega) only [IntWalk.i64_in, IntWalk.u64_in, if_neg, if_pos])<;> rfl) (by simp only [go_sem] <;> rfl) ?_
      iterate 2 (refine Run.op (by simp only [go_sem, hz, if_false, e1, e2, e3, ht1, pick_max] <;> rfl) (by simp only [go_sem] <;> rfl) ?_)
      refine Run.nil ?_
      refine Exec.reg ?_
      iterate 2 (refine Run.op (by simp only [go_sem, hz, if_false, e1, e2, e3, ht1, pick_max] <;> rfl) (by simp only [go_sem] <;> rfl) ?_)
      refine Run.cal (c_meterworksref02_Power ((k + 1 : Nat) : Int) (by omega)) (by simp only [go_sem]) (by simp only [go_sem, hz, if_false, e1, e2, e3, ht1, pick_max] <;> rfl) (by exact ⟨by first | exact WkR.pure rfl | exact WkR.nil _ | exact WkR.int (by first | omega | (simp; done) | (simp; omega)), trivial⟩) (fr0) (by simp only [go_sem, hz, if_false, e1, e2, e3, ht1, pick_max] <;> rfl) ?_
      refine Run.op (by simp only [go_sem, hz, if_false, e1, e2, e3, ht1, pick_max]; (try simp (disch := omega) only [IntWalk.i64_in, IntWalk.u64_in, if_neg, if_pos])<;> rfl) (by simp only [go_sem] <;> rfl) ?_
      refine Run.op (by simp only [go_sem, hz, if_false, e1, e2, e3, ht1, pick_max]; (try simp (disch := omega) only [IntWalk.i64_in, IntWalk.u64_in, if_neg, if_pos])<;> rfl) (by simp only [go_sem] <;> rfl) ?_
      refine Run.op (by simp only [go_sem, hz, if_false, e1, e2, e3, ht1, pick_max]; (try simp (disch := omega) only [IntWalk.i64_in, IntWalk.u64_in, if_neg, if_pos])<;> rfl) (by simp only [go_sem] <;> rfl) ?_
      refine Run.op (by simp only [go_sem, hz, if_false, e1, e2, e3, ht1, pick_max]; (try simp (disch := omega) only [IntWalk.i64_in, IntWalk.u64_in, if_neg, if_pos])<;> rfl) (by simp only [go_sem] <;> rfl) ?_
      refine Run.op (by simp only [go_sem, hz, if_false, e1, e2, e3, ht1, pick_max] <;> rfl) (by simp only [go_sem] <;> rfl) ?_
      refine Run.op (by simp only [go_sem, hz, if_false, e1, e2, e3, ht1, pick_max]; (try simp (disch := omega) only [IntWalk.i64_in, IntWalk.u64_in, if_neg, if_pos])<;> rfl) (by simp only [go_sem] <;> rfl) ?_
      refine Run.op (by simp only [go_sem, hz, if_false, e1, e2, e3, ht1, pick_max] <;> rfl) (by simp only [go_sem] <;> rfl) ?_
      refine Run.nil ?_
      exact Ends.fin [] (rs := [.tmp 4]) rfl (by simp only [go_sem, hz, if_false, e1, e2, e3, ht1, pick_max] <;> rfl) (by simp only [go_sem, hz, if_false, e1, e2, e3, ht1, pick_max] <;> first | rfl | ((repeat' (first | with_reducible_and_instances rfl | refine st_eq ?_ ?_ ?_ | refine ret_eq ?_ | refine tup_eq ?_ | refine tm_eq ?_ ?_ | refine arr_eq ?_ | refine cells_eq ?_ | refine val_eq ?_ | refine ls_eq ?_ ?_ | refine own_eq ?_ ?_ | refine sl_eq ?_ | refine b_eq ?_ | (refine i_eq ?_; omega))); done))

end Go.Mw
namespace Go.Mw
open Go.Proofs
open Go.Dr
theorem places_succ (k : Nat) (t : Int) : placesD (k + 1) t = placesD k t ++ [placeD t k] := by unfold placesD; rw [List.range_succ, List.map_append]; rfl
theorem places_zero (t : Int) : placesD 0 t = [] := rfl
theorem places_len (n : Nat) (t : Int) : (placesD n t).length = n := by unfold placesD; simp
theorem places_get {n k : Nat} (t : Int) (h : k < n) : (placesD n t)[k]? = some (placeD t k) := by unfold placesD; simp [h]
theorem places_mem {n : Nat} {t p : Int} (h : p ∈ placesD n t) : 0 ≤ p ∧ p ≤ 9999 := by
  unfold placesD at h
  obtain ⟨k, _, rfl⟩ := List.mem_map.1 h
  exact place_bnd t k
/-- What stands in the row of places when some are there. -/
def cellP (t : Int) (k j : Nat) : Int := if j ≤ k then placeD t j else 0
def rowP (t : Int) (k : Nat) : List Int := [cellP t k 0, cellP t k 1, cellP t k 2, cellP t k 3, cellP t k 4, cellP t k 5]
theorem row_end (t : Int) : rowP t 5 = placesD 6 t := rfl
theorem take_places (n : Nat) (h : n ≤ 6) (t : Int) : (placesD 6 t).take n = placesD n t := by
  unfold placesD
  rw [← List.map_take]
  congr 1
  match n, h with
  | 0, _ | 1, _ | 2, _ | 3, _ | 4, _ | 5, _ | 6, _ => rfl
  | n + 7, h => omega
set_option maxRecDepth 20000 in
set_option maxHeartbeats 4000000 in
/-- meterworks/drum.placesOf -/
theorem c_drum_placesOf (t : Int) (ht : 0 ≤ t ∧ t ≤ 2000000000) : Contract Try.prog 49 [.int t] (.val true [.d (.i (placeD t 0)), .d (.i (placeD t 1)), .d (.i (placeD t 2)), .d (.i (placeD t 3)), .d (.i (placeD t 4)), .d (.i (placeD t 5))]) [] := by
  have ea : t.tmod 10000 = t % 10000 := tmod_e ht.1
  have eb : t.tdiv 10000 = t / (1000 * pow10 1) := tdiv_e ht.1
  have ec : t % 10000 = cellP t 0 0 := rfl
  have h00 : 0 ≤ t / (1000 * pow10 1) := Int.ediv_nonneg ht.1 (by decide)
  have h01 : t / (1000 * pow10 1) ≤ t := Int.ediv_le_self _ ht.1
  have ew := IntWalk.i64_in (t / (1000 * pow10 1)) (by omega)
  refine con_of follows_mixed Try.func49 rfl (by simp only [List.length_cons, List.length_nil, Try.ntmps49]; omega) (by kernel_rfl) rfl ?_
  refine Exec.reg ?_
  refine Run.op (by simp only [go_sem, ea, eb, ew, Int.toNat_zero, Nat.zero_mul, Nat.mul_one, List.take_zero, List.take_succ_cons, List.drop_zero, List.drop_succ_cons, List.nil_append, List.cons_append] <;> rfl) (by simp only [go_sem] <;> rfl) ?_
  refine Run.nil ?_
  refine Exec.reg ?_
  refine Run.op (by simp only [go_sem, ea, eb, ew, Int.toNat_zero, Nat.zero_mul, Nat.mul_one, List.take_zero, List.take_succ_cons, List.drop_zero, List.drop_succ_cons, List.nil_append, List.cons_append] <;> rfl) (by simp only [go_sem] <;> rfl) ?_
  refine Run.op (by simp only [go_sem, ea, eb, ew, Int.toNat_zero, Nat.zero_mul, Nat.mul_one, List.take_zero, List.take_succ_cons, List.drop_zero, List.drop_succ_cons, List.nil_append, List.cons_append]; (try simp (disch := omega) only [IntWalk.i64_in, IntWalk.u64_in, if_neg, if_pos])<;> rfl) (by simp only [go_sem] <;> rfl) ?_
  refine Run.op (by simp only [go_sem, ea, eb, ew, Int.toNat_zero, Nat.zero_mul, Nat.mul_one, List.take_zero, List.take_succ_cons, List.drop_zero, List.drop_succ_cons, List.nil_append, List.cons_append]; (try simp (disch := omega) only [if_pos]); (try simp only [go_sem, ea, eb, ew, Int.toNat_zero, Nat.zero_mul, Nat.mul_one, List.take_zero, List.take_succ_cons, List.drop_zero, List.drop_succ_cons, List.nil_append, List.cons_append])<;> rfl) (by simp only [go_sem] <;> rfl) ?_
  refine Run.op (by simp only [go_sem, ea, eb, ew, Int.toNat_zero, Nat.zero_mul, Nat.mul_one, List.take_zero, List.take_succ_cons, List.drop_zero, List.drop_succ_cons, List.nil_append, List.cons_append] <;> rfl) (by simp only [go_sem] <;> rfl) ?_
  refine Run.nil ?_
  refine Exec.reg ?_
  refine Run.op (by simp only [go_sem, ea, eb, ew, Int.toNat_zero, Nat.zero_mul, Nat.mul_one, List.take_zero, List.take_succ_cons, List.drop_zero, List.drop_succ_cons, List.nil_append, List.cons_append] <;> rfl) (by simp only [go_sem] <;> rfl) ?_
  refine Run.op (by simp only [go_sem, ea, eb, ew, Int.toNat_zero, Nat.zero_mul, Nat.mul_one, List.take_zero, List.take_succ_cons, List.drop_zero, List.drop_succ_cons, List.nil_append, List.cons_append]; (try simp (disch := omega) only [IntWalk.i64_in, IntWalk.u64_in, if_neg, if_pos])<;> rfl) (by simp only [go_sem] <;> rfl) ?_
  refine Run.op (by simp only [go_sem, ea, eb, ew, Int.toNat_zero, Nat.zero_mul, Nat.mul_one, List.take_zero, List.take_succ_cons, List.drop_zero, List.drop_succ_cons, List.nil_append, List.cons_append] <;> rfl) (by simp only [go_sem] <;> rfl) ?_
  refine Run.nil ?_
  refine Exec.assocS ?_
  refine Exec.reg ?_
  refine Run.op (by simp only [go_sem, ea, eb, ew, Int.toNat_zero, Nat.zero_mul, Nat.mul_one, List.take_zero, List.take_succ_cons, List.drop_zero, List.drop_succ_cons, List.nil_append, List.cons_append] <;> rfl) (by simp only [go_sem] <;> rfl) ?_
  refine Run.nil ?_
  refine Exec.blk ?_
  refine Exec.forA [2, 3, 4] [2] (5) (fun k => [.slot 4 (.int ((k : Int) + 1)), .slot 3 (.int (t / (1000 * pow10 (k + 1)))), .obj 2 (.cells [.d (.i (cellP t k 0)), .d (.i (cellP t k 1)), .d (.i (cellP t k 2)), .d (.i (cellP t k 3)), .d (.i (cellP t k 4)), .d (.i (cellP t k 5))])]) (fun _ => True) (fun k => by simp only [go_sem] <;> rfl) (by simp only [go_sem, ea, eb, ew, Int.natCast_zero, Int.zero_add, Int.toNat_zero, Nat.zero_mul, Nat.mul_one, List.take_zero, List.take_succ_cons, List.drop_zero, List.drop_succ_cons, List.nil_append, List.cons_append] <;> rfl) ?_ (fun k hk hX => ?_)
  · trivial
  · skip
    refine Exec.assocS ?_
    refine Exec.reg ?_
    iterate 2 (refine Run.op (by simp only [go_sem, ea, eb, ew, Int.toNat_zero, Nat.zero_mul, Nat.mul_one, List.take_zero, List.take_succ_cons, List.drop_zero, List.drop_succ_cons, List.nil_append, List.cons_append] <;> rfl) (by simp only [go_sem] <;> rfl) ?_)
    refine Run.nil ?_
    refine Exec.cndS (by simp only [go_sem, ea, eb, ew, Int.toNat_zero, Nat.zero_mul, Nat.mul_one, List.take_zero, List.take_succ_cons, List.drop_zero, List.drop_succ_cons, List.nil_append, List.cons_append] <;> rfl) (fun hb11 => ?_) (fun hb11 => ?_)
    · skip
      have hlt : k < 5 := by have := of_decide_eq_true hb11; omega
      refine Exec.skipS ?_
      refine Exec.blk ?_
      by_cases hk0 : k = 0
      · skip
        subst hk0
        have hd : t / (1000 * pow10 2) = t / (1000 * pow10 1) / 10 := pow10_div t 1
        have hb := place_bnd t 0
        have h0 : 0 ≤ t / (1000 * pow10 1) := Int.ediv_nonneg ht.1 (by have := pow10_pos 1; omega)
        have h1 : t / (1000 * pow10 1) ≤ t := Int.ediv_le_self _ ht.1
        have e1 : (t / (1000 * pow10 1)).tmod 10 = t / (1000 * pow10 1) % 10 := tmod_e h0
        have e2 : (t / (1000 * pow10 1)).tdiv 10 = t / (1000 * pow10 1) / 10 := tdiv_e h0
        have e3 : placeD t 1 = 1000 * (t / (1000 * pow10 1) % 10) + max 0 (placeD t 0 - 9000) := rfl
        have e4 : t / (1000 * pow10 1) % 10 * 1000 + max 0 (placeD t 0 - 9000) = placeD t 1 := by have := e3; omega
        have hb2 := place_bnd t 1
        have cj : cellP t 0 0 = placeD t 0 := rfl
        have t1 : (((0 : Nat) : Int) + 1).toNat = 1 := rfl
        have t2 : (((0 : Nat) : Int) + 1 - 1).toNat = 0 := rfl
        refine Exec.reg ?_
        iterate 2 (refine Run.op (by simp only [go_sem, ea, eb, ew, Int.toNat_zero, Nat.zero_mul, Nat.mul_one, List.take_zero, List.take_succ_cons, List.drop_zero, List.drop_succ_cons, List.nil_append, List.cons_append, e1, e2, cj, e4, hd, t1, t2, Int.toNat_zero, Nat.zero_mul, Nat.mul_one, List.take_zero, List.take_succ_cons, List.drop_zero, List.drop_succ_cons, List.nil_append, List.cons_append] <;> rfl) (by simp only [go_sem] <;> rfl) ?_)
        refine Run.op (by simp only [go_sem, ea, eb, ew, Int.toNat_zero, Nat.zero_mul, Nat.mul_one, List.take_zero, List.take_succ_cons, List.drop_zero, List.drop_succ_cons, List.nil_append, List.cons_append, e1, e2, cj, e4, hd, t1, t2, Int.toNat_zero, Nat.zero_mul, Nat.mul_one, List.take_zero, List.take_succ_cons, List.drop_zero, List.drop_succ_cons, List.nil_append, List.cons_append]; (try simp (disch := omega) only [IntWalk.i64_in, IntWalk.u64_in, if_neg, if_pos])<;> rfl) (by simp only [go_sem] <;> rfl) ?_
        refine Run.op (by simp only [go_sem, ea, eb, ew, Int.toNat_zero, Nat.zero_mul, Nat.mul_one, List.take_zero, List.take_succ_cons, List.drop_zero, List.drop_succ_cons, List.nil_append, List.cons_append, e1, e2, cj, e4, hd, t1, t2, Int.toNat_zero, Nat.zero_mul, Nat.mul_one, List.take_zero, List.take_succ_cons, List.drop_zero, List.drop_succ_cons, List.nil_append, List.cons_append]; (try simp (disch := omega) only [IntWalk.i64_in, IntWalk.u64_in, if_neg, if_pos])<;> rfl) (by simp only [go_sem] <;> rfl) ?_
        refine Run.op (by simp only [go_sem, ea, eb, ew, Int.toNat_zero, Nat.zero_mul, Nat.mul_one, List.take_zero, List.take_succ_cons, List.drop_zero, List.drop_succ_cons, List.nil_append, List.cons_append, e1, e2, cj, e4, hd, t1, t2, Int.toNat_zero, Nat.zero_mul, Nat.mul_one, List.take_zero, List.take_succ_cons, List.drop_zero, List.drop_succ_cons, List.nil_append, List.cons_append] <;> rfl) (by simp only [go_sem] <;> rfl) ?_
        refine Run.op (by simp only [go_sem, ea, eb, ew, Int.toNat_zero, Nat.zero_mul, Nat.mul_one, List.take_zero, List.take_succ_cons, List.drop_zero, List.drop_succ_cons, List.nil_append, List.cons_append, e1, e2, cj, e4, hd, t1, t2, Int.toNat_zero, Nat.zero_mul, Nat.mul_one, List.take_zero, List.take_succ_cons, List.drop_zero, List.drop_succ_cons, List.nil_append, List.cons_append]; (try simp (disch := omega) only [IntWalk.i64_in, IntWalk.u64_in, if_neg, if_pos])<;> rfl) (by simp only [go_sem] <;> rfl) ?_
        refine Run.op (by simp only [go_sem, ea, eb, ew, Int.toNat_zero, Nat.zero_mul, Nat.mul_one, List.take_zero, List.take_succ_cons, List.drop_zero, List.drop_succ_cons, List.nil_append, List.cons_append, e1, e2, cj, e4, hd, t1, t2, Int.toNat_zero, Nat.zero_mul, Nat.mul_one, List.take_zero, List.take_succ_cons, List.drop_zero, List.drop_succ_cons, List.nil_append, List.cons_append]; (try simp (disch := omega) only [if_pos]); (try simp only [go_sem, ea, eb, ew, Int.toNat_zero, Nat.zero_mul, Nat.mul_one, List.take_zero, List.take_succ_cons, List.drop_zero, List.drop_succ_cons, List.nil_append, List.cons_append, e1, e2, cj, e4, hd, t1, t2, Int.toNat_zero, Nat.zero_mul, Nat.mul_one, List.take_zero, List.take_succ_cons, List.drop_zero, List.drop_succ_cons, List.nil_append, List.cons_append])<;> rfl) (by simp only [go_sem] <;> rfl) ?_
        refine Run.op (by simp only [go_sem, ea, eb, ew, Int.toNat_zero, Nat.zero_mul, Nat.mul_one, List.take_zero, List.take_succ_cons, List.drop_zero, List.drop_succ_cons, List.nil_append, List.cons_append, e1, e2, cj, e4, hd, t1, t2, Int.toNat_zero, Nat.zero_mul, Nat.mul_one, List.take_zero, List.take_succ_cons, List.drop_zero, List.drop_succ_cons, List.nil_append, List.cons_append] <;> rfl) (by simp only [go_sem] <;> rfl) ?_
        refine Run.cal (c_drum_place_carry (placeD t 0) (by omega)) (by simp only [go_sem]) (by simp only [go_sem, ea, eb, ew, Int.toNat_zero, Nat.zero_mul, Nat.mul_one, List.take_zero, List.take_succ_cons, List.drop_zero, List.drop_succ_cons, List.nil_append, List.cons_append, e1, e2, cj, e4, hd, t1, t2, Int.toNat_zero, Nat.zero_mul, Nat.mul_one, List.take_zero, List.take_succ_cons, List.drop_zero, List.drop_succ_cons, List.nil_append, List.cons_append] <;> rfl) (by exact ⟨by first | exact WkR.pure rfl | exact WkR.nil _ | exact WkR.int (by first | omega | (simp; done) | (simp; omega)), trivial⟩) (fr0) (by simp only [go_sem, ea, eb, ew, Int.toNat_zero, Nat.zero_mul, Nat.mul_one, List.take_zero, List.take_succ_cons, List.drop_zero, List.drop_succ_cons, List.nil_append, List.cons_append, e1, e2, cj, e4, hd, t1, t2, Int.toNat_zero, Nat.zero_mul, Nat.mul_one, List.take_zero, List.take_succ_cons, List.drop_zero, List.drop_succ_cons, List.nil_append, List.cons_append] <;> rfl) ?_
        refine Run.op (by simp only [go_sem, ea, eb, ew, Int.toNat_zero, Nat.zero_mul, Nat.mul_one, List.take_zero, List.take_succ_cons, List.drop_zero, List.drop_succ_cons, List.nil_append, List.cons_append, e1, e2, cj, e4, hd, t1, t2, Int.toNat_zero, Nat.zero_mul, Nat.mul_one, List.take_zero, List.take_succ_cons, List.drop_zero, List.drop_succ_cons, List.nil_append, List.cons_append]; (try simp (disch := omega) only [IntWalk.i64_in, IntWalk.u64_in, if_neg, if_pos])<;> rfl) (by simp only [go_sem] <;> rfl) ?_
        refine Run.op (by simp only [go_sem, ea, eb, ew, Int.toNat_zero, Nat.zero_mul, Nat.mul_one, List.take_zero, List.take_succ_cons, List.drop_zero, List.drop_succ_cons, List.nil_append, List.cons_append, e1, e2, cj, e4, hd, t1, t2, Int.toNat_zero, Nat.zero_mul, Nat.mul_one, List.take_zero, List.take_succ_cons, List.drop_zero, List.drop_succ_cons, List.nil_append, List.cons_append]; (try simp (disch := omega) only [if_pos]); (try simp only [go_sem, ea, eb, ew, Int.toNat_zero, Nat.zero_mul, Nat.mul_one, List.take_zero, List.take_succ_cons, List.drop_zero, List.drop_succ_cons, List.nil_append, List.cons_append, e1, e2, cj, e4, hd, t1, t2, Int.toNat_zero, Nat.zero_mul, Nat.mul_one, List.take_zero, List.take_succ_cons, List.drop_zero, List.drop_succ_cons, List.nil_append, List.cons_append])<;> rfl) (by simp only [go_sem] <;> rfl) ?_
        refine Run.op (by simp only [go_sem, ea, eb, ew, Int.toNat_zero, Nat.zero_mul, Nat.mul_one, List.take_zero, List.take_succ_cons, List.drop_zero, List.drop_succ_cons, List.nil_append, List.cons_append, e1, e2, cj, e4, hd, t1, t2, Int.toNat_zero, Nat.zero_mul, Nat.mul_one, List.take_zero, List.take_succ_cons, List.drop_zero, List.drop_succ_cons, List.nil_append, List.cons_append] <;> rfl) (by simp only [go_sem] <;> rfl) ?_
        refine Run.nil ?_
        refine Exec.reg1 ?_
        refine Run.op (by simp only [go_sem, ea, eb, ew, Int.toNat_zero, Nat.zero_mul, Nat.mul_one, List.take_zero, List.take_succ_cons, List.drop_zero, List.drop_succ_cons, List.nil_append, List.cons_append, e1, e2, cj, e4, hd, t1, t2, Int.toNat_zero, Nat.zero_mul, Nat.mul_one, List.take_zero, List.take_succ_cons, List.drop_zero, List.drop_succ_cons, List.nil_append, List.cons_append] <;> rfl) (by simp only [go_sem] <;> rfl) ?_
        refine Run.op (by simp only [go_sem, ea, eb, ew, Int.toNat_zero, Nat.zero_mul, Nat.mul_one, List.take_zero, List.take_succ_cons, List.drop_zero, List.drop_succ_cons, List.nil_append, List.cons_append, e1, e2, cj, e4, hd, t1, t2, Int.toNat_zero, Nat.zero_mul, Nat.mul_one, List.take_zero, List.take_succ_cons, List.drop_zero, List.drop_succ_cons, List.nil_append, List.cons_append]; (try simp (disch := omega) only [IntWalk.i64_in, IntWalk.u64_in, if_neg, if_pos])<;> rfl) (by simp only [go_sem] <;> rfl) ?_
        refine Run.op (by simp only [go_sem, ea, eb, ew, Int.toNat_zero, Nat.zero_mul, Nat.mul_one, List.take_zero, List.take_succ_cons, List.drop_zero, List.drop_succ_cons, List.nil_append, List.cons_append, e1, e2, cj, e4, hd, t1, t2, Int.toNat_zero, Nat.zero_mul, Nat.mul_one, List.take_zero, List.take_succ_cons, List.drop_zero, List.drop_succ_cons, List.nil_append, List.cons_append] <;> rfl) (by simp only [go_sem] <;> rfl) ?_
        refine Run.nil ?_
        refine BlkK.nrm ?_
        refine Exec.reg1 ?_
        refine Run.op (by simp only [go_sem, ea, eb, ew, Int.toNat_zero, Nat.zero_mul, Nat.mul_one, List.take_zero, List.take_succ_cons, List.drop_zero, List.drop_succ_cons, List.nil_append, List.cons_append, e1, e2, cj, e4, hd, t1, t2, Int.toNat_zero, Nat.zero_mul, Nat.mul_one, List.take_zero, List.take_succ_cons, List.drop_zero, List.drop_succ_cons, List.nil_append, List.cons_append] <;> rfl) (by simp only [go_sem] <;> rfl) ?_
        refine Run.op (by simp only [go_sem, ea, eb, ew, Int.toNat_zero, Nat.zero_mul, Nat.mul_one, List.take_zero, List.take_succ_cons, List.drop_zero, List.drop_succ_cons, List.nil_append, List.cons_append, e1, e2, cj, e4, hd, t1, t2, Int.toNat_zero, Nat.zero_mul, Nat.mul_one, List.take_zero, List.take_succ_cons, List.drop_zero, List.drop_succ_cons, List.nil_append, List.cons_append]; (try simp (disch := omega) only [IntWalk.i64_in, IntWalk.u64_in, if_neg, if_pos])<;> rfl) (by simp only [go_sem] <;> rfl) ?_
        refine Run.op (by simp only [go_sem, ea, eb, ew, Int.toNat_zero, Nat.zero_mul, Nat.mul_one, List.take_zero, List.take_succ_cons, List.drop_zero, List.drop_succ_cons, List.nil_append, List.cons_append, e1, e2, cj, e4, hd, t1, t2, Int.toNat_zero, Nat.zero_mul, Nat.mul_one, List.take_zero, List.take_succ_cons, List.drop_zero, List.drop_succ_cons, List.nil_append, List.cons_append] <;> rfl) (by simp only [go_sem] <;> rfl) ?_
        refine Run.nil ?_
        refine ForK.nxt ?_ ?_ ?_
        · omega
        · exact Ghost.kp [2, 3, 4] [2] (by simp only [go_sem, ea, eb, ew, Int.toNat_zero, Nat.zero_mul, Nat.mul_one, List.take_zero, List.take_succ_cons, List.drop_zero, List.drop_succ_cons, List.nil_append, List.cons_append, e1, e2, cj, e4, hd, t1, t2, Int.toNat_zero, Nat.zero_mul, Nat.mul_one, List.take_zero, List.take_succ_cons, List.drop_zero, List.drop_succ_cons, List.nil_append, List.cons_append]; first | ((repeat' (first | with_reducible_and_instances rfl | refine st_eq ?_ ?_ ?_ | refine ret_eq ?_ | refine tup_eq ?_ | refine tm_eq ?_ ?_ | refine arr_eq ?_ | refine cells_eq ?_ | refine val_eq ?_ | refine ls_eq ?_ ?_ | refine own_eq ?_ ?_ | refine sl_eq ?_ | refine b_eq ?_ | (refine i_eq ?_; omega))); (all_goals (first | rfl | omega | (simp [cellP]; done) | (simp [cellP, hd]; done)))) | rfl)
        · trivial
      · skip
        skip
        by_cases hk1 : k = 1
        · skip
          subst hk1
          have hd : t / (1000 * pow10 3) = t / (1000 * pow10 2) / 10 := pow10_div t 2
          have hb := place_bnd t 1
          have h0 : 0 ≤ t / (1000 * pow10 2) := Int.ediv_nonneg ht.1 (by have := pow10_pos 2; omega)
          have h1 : t / (1000 * pow10 2) ≤ t := Int.ediv_le_self _ ht.1
          have e1 : (t / (1000 * pow10 2)).tmod 10 = t / (1000 * pow10 2) % 10 := tmod_e h0
          have e2 : (t / (1000 * pow10 2)).tdiv 10 = t / (1000 * pow10 2) / 10 := tdiv_e h0
          have e3 : placeD t 2 = 1000 * (t / (1000 * pow10 2) % 10) + max 0 (placeD t 1 - 9000) := rfl
          have e4 : t / (1000 * pow10 2) % 10 * 1000 + max 0 (placeD t 1 - 9000) = placeD t 2 := by have := e3; omega
          have hb2 := place_bnd t 2
          have cj : cellP t 1 1 = placeD t 1 := rfl
          have t1 : (((1 : Nat) : Int) + 1).toNat = 2 := rfl
          have t2 : (((1 : Nat) : Int) + 1 - 1).toNat = 1 := rfl
          refine Exec.reg ?_
          iterate 2 (refine Run.op (by simp only [go_sem, ea, eb, ew, Int.toNat_zero, Nat.zero_mul, Nat.mul_one, List.take_zero, List.take_succ_cons, List.drop_zero, List.drop_succ_cons, List.nil_append, List.cons_append, e1, e2, cj, e4, hd, t1, t2, Int.toNat_zero, Nat.zero_mul, Nat.mul_one, List.take_zero, List.take_succ_cons, List.drop_zero, List.drop_succ_cons, List.nil_append, List.cons_append] <;> rfl) (by simp only [go_sem] <;> rfl) ?_)
          refine Run.op (by simp only [go_sem, ea, eb, ew, Int.toNat_zero, Nat.zero_mul, Nat.mul_one, List.take_zero, List.take_succ_cons, List.drop_zero, List.drop_succ_cons, List.nil_append, List.cons_append, e1, e2, cj, e4, hd, t1, t2, Int.toNat_zero, Nat.zero_mul, Nat.mul_one, List.take_zero, List.take_succ_cons, List.drop_zero, List.drop_succ_cons, List.nil_append, List.cons_append]; (try simp (disch := omega) only [IntWalk.i64_in, IntWalk.u64_in, if_neg, if_pos])<;> rfl) (by simp only [go_sem] <;> rfl) ?_
          refine Run.op (by simp only [go_sem, ea, eb, ew, Int.toNat_zero, Nat.zero_mul, Nat.mul_one, List.take_zero, List.take_succ_cons, List.drop_zero, List.drop_succ_cons, List.nil_append, List.cons_append, e1, e2, cj, e4, hd, t1, t2, Int.toNat_zero, Nat.zero_mul, Nat.mul_one, List.take_zero, List.take_succ_cons, List.drop_zero, List.drop_succ_cons, List.nil_append, List.cons_append]; (try simp (disch := omega) only [IntWalk.i64_in, IntWalk.u64_in, if_neg, if_pos])<;> rfl) (by simp only [go_sem] <;> rfl) ?_
          refine Run.op (by simp only [go_sem, ea, eb, ew, Int.toNat_zero, Nat.zero_mul, Nat.mul_one, List.take_zero, List.take_succ_cons, List.drop_zero, List.drop_succ_cons, List.nil_append, List.cons_append, e1, e2, cj, e4, hd, t1, t2, Int.toNat_zero, Nat.zero_mul, Nat.mul_one, List.take_zero, List.take_succ_cons, List.drop_zero, List.drop_succ_cons, List.nil_append, List.cons_append] <;> rfl) (by simp only [go_sem] <;> rfl) ?_
          refine Run.op (by simp only [go_sem, ea, eb, ew, Int.toNat_zero, Nat.zero_mul, Nat.mul_one, List.take_zero, List.take_succ_cons, List.drop_zero, List.drop_succ_cons, List.nil_append, List.cons_append, e1, e2, cj, e4, hd, t1, t2, Int.toNat_zero, Nat.zero_mul, Nat.mul_one, List.take_zero, List.take_succ_cons, List.drop_zero, List.drop_succ_cons, List.nil_append, List.cons_append]; (try simp (disch := omega) only [IntWalk.i64_in, IntWalk.u64_in, if_neg, if_pos])<;> rfl) (by simp only [go_sem] <;> rfl) ?_
          refine Run.op (by simp only [go_sem, ea, eb, ew, Int.toNat_zero, Nat.zero_mul, Nat.mul_one, List.take_zero, List.take_succ_cons, List.drop_zero, List.drop_succ_cons, List.nil_append, List.cons_append, e1, e2, cj, e4, hd, t1, t2, Int.toNat_zero, Nat.zero_mul, Nat.mul_one, List.take_zero, List.take_succ_cons, List.drop_zero, List.drop_succ_cons, List.nil_append, List.cons_append]; (try simp (disch := omega) only [if_pos]); (try simp only [go_sem, ea, eb, ew, Int.toNat_zero, Nat.zero_mul, Nat.mul_one, List.take_zero, List.take_succ_cons, List.drop_zero, List.drop_succ_cons, List.nil_append, List.cons_append, e1, e2, cj, e4, hd, t1, t2, Int.toNat_zero, Nat.zero_mul, Nat.mul_one, List.take_zero, List.take_succ_cons, List.drop_zero, List.drop_succ_cons, List.nil_append, List.cons_append])<;> rfl) (by simp only [go_sem] <;> rfl) ?_
          refine Run.op (by simp only [go_sem, ea, eb, ew, Int.toNat_zero, Nat.zero_mul, Nat.mul_one, List.take_zero, List.take_succ_cons, List.drop_zero, List.drop_succ_cons, List.nil_append, List.cons_append, e1, e2, cj, e4, hd, t1, t2, Int.toNat_zero, Nat.zero_mul, Nat.mul_one, List.take_zero, List.take_succ_cons, List.drop_zero, List.drop_succ_cons, List.nil_append, List.cons_append] <;> rfl) (by simp only [go_sem] <;> rfl) ?_
          refine Run.cal (c_drum_place_carry (placeD t 1) (by omega)) (by simp only [go_sem]) (by simp only [go_sem, ea, eb, ew, Int.toNat_zero, Nat.zero_mul, Nat.mul_one, List.take_zero, List.take_succ_cons, List.drop_zero, List.drop_succ_cons, List.nil_append, List.cons_append, e1, e2, cj, e4, hd, t1, t2, Int.toNat_zero, Nat.zero_mul, Nat.mul_one, List.take_zero, List.take_succ_cons, List.drop_zero, List.drop_succ_cons, List.nil_append, List.cons_append] <;> rfl) (by exact ⟨by first | exact WkR.pure rfl | exact WkR.nil _ | exact WkR.int (by first | omega | (simp; done) | (simp; omega)), trivial⟩) (fr0) (by simp only [go_sem, ea, eb, ew, Int.toNat_zero, Nat.zero_mul, Nat.mul_one, List.take_zero, List.take_succ_cons, List.drop_zero, List.drop_succ_cons, List.nil_append, List.cons_append, e1, e2, cj, e4, hd, t1, t2, Int.toNat_zero, Nat.zero_mul, Nat.mul_one, List.take_zero, List.take_succ_cons, List.drop_zero, List.drop_succ_cons, List.nil_append, List.cons_append] <;> rfl) ?_
          refine Run.op (by simp only [go_sem, ea, eb, ew, Int.toNat_zero, Nat.zero_mul, Nat.mul_one, List.take_zero, List.take_succ_cons, List.drop_zero, List.drop_succ_cons, List.nil_append, List.cons_append, e1, e2, cj, e4, hd, t1, t2, Int.toNat_zero, Nat.zero_mul, Nat.mul_one, List.take_zero, List.take_succ_cons, List.drop_zero, List.drop_succ_cons, List.nil_append, List.cons_append]; (try simp (disch := omega) only [IntWalk.i64_in, IntWalk.u64_in, if_neg, if_pos])<;> rfl) (by simp only [go_sem] <;> rfl) ?_
          refine Run.op (by simp only [go_sem, ea, eb, ew, Int.toNat_zero, Nat.zero_mul, Nat.mul_one, List.take_zero, List.take_succ_cons, List.drop_zero, List.drop_succ_cons, List.nil_append, List.cons_append, e1, e2, cj, e4, hd, t1, t2, Int.toNat_zero, Nat.zero_mul, Nat.mul_one, List.take_zero, List.take_succ_cons, List.drop_zero, List.drop_succ_cons, List.nil_append, List.cons_append]; (try simp (disch := omega) only [if_pos]); (try simp only [go_sem, ea, eb, ew, Int.toNat_zero, Nat.zero_mul, Nat.mul_one, List.take_zero, List.take_succ_cons, List.drop_zero, List.drop_succ_cons, List.nil_append, List.cons_append, e1, e2, cj, e4, hd, t1, t2, Int.toNat_zero, Nat.zero_mul, Nat.mul_one, List.take_zero, List.take_succ_cons, List.drop_zero, List.drop_succ_cons, List.nil_append, List.cons_append])<;> rfl) (by simp only [go_sem] <;> rfl) ?_
          refine Run.op (by simp only [go_sem, ea, eb, ew, Int.toNat_zero, Nat.zero_mul, Nat.mul_one, List.take_zero, List.take_succ_cons, List.drop_zero, List.drop_succ_cons, List.nil_append, List.cons_append, e1, e2, cj, e4, hd, t1, t2, Int.toNat_zero, Nat.zero_mul, Nat.mul_one, List.take_zero, List.take_succ_cons, List.drop_zero, List.drop_succ_cons, List.nil_append, List.cons_append] <;> rfl) (by simp only [go_sem] <;> rfl) ?_
          refine Run.nil ?_
          refine Exec.reg1 ?_
          refine Run.op (by simp only [go_sem, ea, eb, ew, Int.toNat_zero, Nat.zero_mul, Nat.mul_one, List.take_zero, List.take_succ_cons, List.drop_zero, List.drop_succ_cons, List.nil_append, List.cons_append, e1, e2, cj, e4, hd, t1, t2, Int.toNat_zero, Nat.zero_mul, Nat.mul_one, List.take_zero, List.take_succ_cons, List.drop_zero, List.drop_succ_cons, List.nil_append, List.cons_append] <;> rfl) (by simp only [go_sem] <;> rfl) ?_
          refine Run.op (by simp only [go_sem, ea, eb, ew, Int.toNat_zero, Nat.zero_mul, Nat.mul_one, List.take_zero, List.take_succ_cons, List.drop_zero, List.drop_succ_cons, List.nil_append, List.cons_append, e1, e2, cj, e4, hd, t1, t2, Int.toNat_zero, Nat.zero_mul, Nat.mul_one, List.take_zero, List.take_succ_cons, List.drop_zero, List.drop_succ_cons, List.nil_append, List.cons_append]; (try simp (disch := omega) only [IntWalk.i64_in, IntWalk.u64_in, if_neg, if_pos])<;> rfl) (by simp only [go_sem] <;> rfl) ?_
          refine Run.op (by simp only [go_sem, ea, eb, ew, Int.toNat_zero, Nat.zero_mul, Nat.mul_one, List.take_zero, List.take_succ_cons, List.drop_zero, List.drop_succ_cons, List.nil_append, List.cons_append, e1, e2, cj, e4, hd, t1, t2, Int.toNat_zero, Nat.zero_mul, Nat.mul_one, List.take_zero, List.take_succ_cons, List.drop_zero, List.drop_succ_cons, List.nil_append, List.cons_append] <;> rfl) (by simp only [go_sem] <;> rfl) ?_
          refine Run.nil ?_
          refine BlkK.nrm ?_
          refine Exec.reg1 ?_
          refine Run.op (by simp only [go_sem, ea, eb, ew, Int.toNat_zero, Nat.zero_mul, Nat.mul_one, List.take_zero, List.take_succ_cons, List.drop_zero, List.drop_succ_cons, List.nil_append, List.cons_append, e1, e2, cj, e4, hd, t1, t2, Int.toNat_zero, Nat.zero_mul, Nat.mul_one, List.take_zero, List.take_succ_cons, List.drop_zero, List.drop_succ_cons, List.nil_append, List.cons_append] <;> rfl) (by simp only [go_sem] <;> rfl) ?_
          refine Run.op (by simp only [go_sem, ea, eb, ew, Int.toNat_zero, Nat.zero_mul, Nat.mul_one, List.take_zero, List.take_succ_cons, List.drop_zero, List.drop_succ_cons, List.nil_append, List.cons_append, e1, e2, cj, e4, hd, t1, t2, Int.toNat_zero, Nat.zero_mul, Nat.mul_one, List.take_zero, List.take_succ_cons, List.drop_zero, List.drop_succ_cons, List.nil_append, List.cons_append]; (try simp (disch := omega) only [IntWalk.i64_in, IntWalk.u64_in, if_neg, if_pos])<;> rfl) (by simp only [go_sem] <;> rfl) ?_
          refine Run.op (by simp only [go_sem, ea, eb, ew, Int.toNat_zero, Nat.zero_mul, Nat.mul_one, List.take_zero, List.take_succ_cons, List.drop_zero, List.drop_succ_cons, List.nil_append, List.cons_append, e1, e2, cj, e4, hd, t1, t2, Int.toNat_zero, Nat.zero_mul, Nat.mul_one, List.take_zero, List.take_succ_cons, List.drop_zero, List.drop_succ_cons, List.nil_append, List.cons_append] <;> rfl) (by simp only [go_sem] <;> rfl) ?_
          refine Run.nil ?_
          refine ForK.nxt ?_ ?_ ?_
          · omega
          · exact Ghost.kp [2, 3, 4] [2] (by simp only [go_sem, ea, eb, ew, Int.toNat_zero, Nat.zero_mul, Nat.mul_one, List.take_zero, List.take_succ_cons, List.drop_zero, List.drop_succ_cons, List.nil_append, List.cons_append, e1, e2, cj, e4, hd, t1, t2, Int.toNat_zero, Nat.zero_mul, Nat.mul_one, List.take_zero, List.take_succ_cons, List.drop_zero, List.drop_succ_cons, List.nil_append, List.cons_append]; first | ((repeat' (first | with_reducible_and_instances rfl | refine st_eq ?_ ?_ ?_ | refine ret_eq ?_ | refine tup_eq ?_ | refine tm_eq ?_ ?_ | refine arr_eq ?_ | refine cells_eq ?_ | refine val_eq ?_ | refine ls_eq ?_ ?_ | refine own_eq ?_ ?_ | refine sl_eq ?_ | refine b_eq ?_ | (refine i_eq ?_; omega))); (all_goals (first | rfl | omega | (simp [cellP]; done) | (simp [cellP, hd]; done)))) | rfl)
          · trivial
        · skip
          skip
          by_cases hk2 : k = 2
          · skip
            subst hk2
            have hd : t / (1000 * pow10 4) = t / (1000 * pow10 3) / 10 := pow10_div t 3
            have hb := place_bnd t 2
            have h0 : 0 ≤ t / (1000 * pow10 3) := Int.ediv_nonneg ht.1 (by have := pow10_pos 3; omega)
            have h1 : t / (1000 * pow10 3) ≤ t := Int.ediv_le_self _ ht.1
            have e1 : (t / (1000 * pow10 3)).tmod 10 = t / (1000 * pow10 3) % 10 := tmod_e h0
            have e2 : (t / (1000 * pow10 3)).tdiv 10 = t / (1000 * pow10 3) / 10 := tdiv_e h0
            have e3 : placeD t 3 = 1000 * (t / (1000 * pow10 3) % 10) + max 0 (placeD t 2 - 9000) := rfl
            have e4 : t / (1000 * pow10 3) % 10 * 1000 + max 0 (placeD t 2 - 9000) = placeD t 3 := by have := e3; omega
            have hb2 := place_bnd t 3
            have cj : cellP t 2 2 = placeD t 2 := rfl
            have t1 : (((2 : Nat) : Int) + 1).toNat = 3 := rfl
            have t2 : (((2 : Nat) : Int) + 1 - 1).toNat = 2 := rfl
            refine Exec.reg ?_
            iterate 2 (refine Run.op (by simp only [go_sem, ea, eb, ew, Int.toNat_zero, Nat.zero_mul, Nat.mul_one, List.take_zero, List.take_succ_cons, List.drop_zero, List.drop_succ_cons, List.nil_append, List.cons_append, e1, e2, cj, e4, hd, t1, t2, Int.toNat_zero, Nat.zero_mul, Nat.mul_one, List.take_zero, List.take_succ_cons, List.drop_zero, List.drop_succ_cons, List.nil_append, List.cons_append] <;> rfl) (by simp only [go_sem] <;> rfl) ?_)
            refine Run.op (by simp only [go_sem, ea, eb, ew, Int.toNat_zero, Nat.zero_mul, Nat.mul_one, List.take_zero, List.take_succ_cons, List.drop_zero, List.drop_succ_cons, List.nil_append, List.cons_append, e1, e2, cj, e4, hd, t1, t2, Int.toNat_zero, Nat.zero_mul, Nat.mul_one, List.take_zero, List.take_succ_cons, List.drop_zero, List.drop_succ_cons, List.nil_append, List.cons_append]; (try simp (disch := omega) only [IntWalk.i64_in, IntWalk.u64_in, if_neg, if_pos])<;> rfl) (by simp only [go_sem] <;> rfl) ?_
            refine Run.op (by simp only [go_sem, ea, eb, ew, Int.toNat_zero, Nat.zero_mul, Nat.mul_one, List.take_zero, List.take_succ_cons, List.drop_zero, List.drop_succ_cons, List.nil_append, List.cons_append, e1, e2, cj, e4, hd, t1, t2, Int.toNat_zero, Nat.zero_mul, Nat.mul_one, List.take_zero, List.take_succ_cons, List.drop_zero, List.drop_succ_cons, List.nil_append, List.cons_append]; (try simp (disch := omega) only [IntWalk.i64_in, IntWalk.u64_in, if_neg, if_pos])<;> rfl) (by simp only [go_sem] <;> rfl) ?_
            refine Run.op (by simp only [go_sem, ea, eb, ew, Int.toNat_zero, Nat.zero_mul, Nat.mul_one, List.take_zero, List.take_succ_cons, List.drop_zero, List.drop_succ_cons, List.nil_append, List.cons_append, e1, e2, cj, e4, hd, t1, t2, Int.toNat_zero, Nat.zero_mul, Nat.mul_one, List.take_zero, List.take_succ_cons, List.drop_zero, List.drop_succ_cons, List.nil_append, List.cons_append] <;> rfl) (by simp only [go_sem] <;> rfl) ?_
            refine Run.op (by simp only [go_sem, ea, eb, ew, Int.toNat_zero, Nat.zero_mul, Nat.mul_one, List.take_zero, List.take_succ_cons, List.drop_zero, List.drop_succ_cons, List.nil_append, List.cons_append, e1, e2, cj, e4, hd, t1, t2, Int.toNat_zero, Nat.zero_mul, Nat.mul_one, List.take_zero, List.take_succ_cons, List.drop_zero, List.drop_succ_cons, List.nil_append, List.cons_append]; (try simp (disch := omega) only [IntWalk.i64_in, IntWalk.u64_in, if_neg, if_pos])<;> rfl) (by simp only [go_sem] <;> rfl) ?_
            refine Run.op (by simp only [go_sem, ea, eb, ew, Int.toNat_zero, Nat.zero_mul, Nat.mul_one, List.take_zero, List.take_succ_cons, List.drop_zero, List.drop_succ_cons, List.nil_append, List.cons_append, e1, e2, cj, e4, hd, t1, t2, Int.toNat_zero, Nat.zero_mul, Nat.mul_one, List.take_zero, List.take_succ_cons, List.drop_zero, List.drop_succ_cons, List.nil_append, List.cons_append]; (try simp (disch := omega) only [if_pos]); (try simp only [go_sem, ea, eb, ew, Int.toNat_zero, Nat.zero_mul, Nat.mul_one, List.take_zero, List.take_succ_cons, List.drop_zero, List.drop_succ_cons, List.nil_append, List.cons_append, e1, e2, cj, e4, hd, t1, t2, Int.toNat_zero, Nat.zero_mul, Nat.mul_one, List.take_zero, List.take_succ_cons, List.drop_zero, List.drop_succ_cons, List.nil_append, List.cons_append])<;> rfl) (by simp only [go_sem] <;> rfl) ?_
            refine Run.op (by simp only [go_sem, ea, eb, ew, Int.toNat_zero, Nat.zero_mul, Nat.mul_one, List.take_zero, List.take_succ_cons, List.drop_zero, List.drop_succ_cons, List.nil_append, List.cons_append, e1, e2, cj, e4, hd, t1, t2, Int.toNat_zero, Nat.zero_mul, Nat.mul_one, List.take_zero, List.take_succ_cons, List.drop_zero, List.drop_succ_cons, List.nil_append, List.cons_append] <;> rfl) (by simp only [go_sem] <;> rfl) ?_
            refine Run.cal (c_drum_place_carry (placeD t 2) (by omega)) (by simp only [go_sem]) (by simp only [go_sem, ea, eb, ew, Int.toNat_zero, Nat.zero_mul, Nat.mul_one, List.take_zero, List.take_succ_cons, List.drop_zero, List.drop_succ_cons, List.nil_append, List.cons_append, e1, e2, cj, e4, hd, t1, t2, Int.toNat_zero, Nat.zero_mul, Nat.mul_one, List.take_zero, List.take_succ_cons, List.drop_zero, List.drop_succ_cons, List.nil_append, List.cons_append] <;> rfl) (by exact ⟨by first | exact WkR.pure rfl | exact WkR.nil _ | exact WkR.int (by first | omega | (simp; done) | (simp; omega)), trivial⟩) (fr0) (by simp only [go_sem, ea, eb, ew, Int.toNat_zero, Nat.zero_mul, Nat.mul_one, List.take_zero, List.take_succ_cons, List.drop_zero, List.drop_succ_cons, List.nil_append, List.cons_append, e1, e2, cj, e4, hd, t1, t2, Int.toNat_zero, Nat.zero_mul, Nat.mul_one, List.take_zero, List.take_succ_cons, List.drop_zero, List.drop_succ_cons, List.nil_append, List.cons_append] <;> rfl) ?_
            refine Run.op (by simp only [go_sem, ea, eb, ew, Int.toNat_zero, Nat.zero_mul, Nat.mul_one, List.take_zero, List.take_succ_cons, List.drop_zero, List.drop_succ_cons, List.nil_append, List.cons_append, e1, e2, cj, e4, hd, t1, t2, Int.toNat_zero, Nat.zero_mul, Nat.mul_one, List.take_zero, List.take_succ_cons, List.drop_zero, List.drop_succ_cons, List.nil_append, List.cons_append]; (try simp (disch := omega) only [IntWalk.i64_in, IntWalk.u64_in, if_neg, if_pos])<;> rfl) (by simp only [go_sem] <;> rfl) ?_
            refine Run.op (by simp only [go_sem, ea, eb, ew, Int.toNat_zero, Nat.zero_mul, Nat.mul_one, List.take_zero, List.take_succ_cons, List.drop_zero, List.drop_succ_cons, List.nil_append, List.cons_append, e1, e2, cj, e4, hd, t1, t2, Int.toNat_zero, Nat.zero_mul, Nat.mul_one, List.take_zero, List.take_succ_cons, List.drop_zero, List.drop_succ_cons, List.nil_append, List.cons_append]; (try simp (disch := omega) only [if_pos]); (try simp only [go_sem, ea, eb, ew, Int.toNat_zero, Nat.zero_mul, Nat.mul_one, List.take_zero, List.take_succ_cons, List.drop_zero, List.drop_succ_cons, List.nil_append, List.cons_append, e1, e2, cj, e4, hd, t1, t2, Int.toNat_zero, Nat.zero_mul, Nat.mul_one, List.take_zero, List.take_succ_cons, List.drop_zero, List.drop_succ_cons, List.nil_append, List.cons_append])<;> rfl) (by simp only [go_sem] <;> rfl) ?_
            refine Run.op (by simp only [go_sem, ea, eb, ew, Int.toNat_zero, Nat.zero_mul, Nat.mul_one, List.take_zero, List.take_succ_cons, List.drop_zero, List.drop_succ_cons, List.nil_append, List.cons_append, e1, e2, cj, e4, hd, t1, t2, Int.toNat_zero, Nat.zero_mul, Nat.mul_one, List.take_zero, List.take_succ_cons, List.drop_zero, List.drop_succ_cons, List.nil_append, List.cons_append] <;> rfl) (by simp only [go_sem] <;> rfl) ?_
            refine Run.nil ?_
            refine Exec.reg1 ?_
            refine Run.op (by simp only [go_sem, ea, eb, ew, Int.toNat_zero, Nat.zero_mul, Nat.mul_one, List.take_zero, List.take_succ_cons, List.drop_zero, List.drop_succ_cons, List.nil_append, List.cons_append, e1, e2, cj, e4, hd, t1, t2, Int.toNat_zero, Nat.zero_mul, Nat.mul_one, List.take_zero, List.take_succ_cons, List.drop_zero, List.drop_succ_cons, List.nil_append, List.cons_append] <;> rfl) (by simp only [go_sem] <;> rfl) ?_
            refine Run.op (by simp only [go_sem, ea, eb, ew, Int.toNat_zero, Nat.zero_mul, Nat.mul_one, List.take_zero, List.take_succ_cons, List.drop_zero, List.drop_succ_cons, List.nil_append, List.cons_append, e1, e2, cj, e4, hd, t1, t2, Int.toNat_zero, Nat.zero_mul, Nat.mul_one, List.take_zero, List.take_succ_cons, List.drop_zero, List.drop_succ_cons, List.nil_append, List.cons_append]; (try simp (disch := omega) only [IntWalk.i64_in, IntWalk.u64_in, if_neg, if_pos])<;> rfl) (by simp only [go_sem] <;> rfl) ?_
            refine Run.op (by simp only [go_sem, ea, eb, ew, Int.toNat_zero, Nat.zero_mul, Nat.mul_one, List.take_zero, List.take_succ_cons, List.drop_zero, List.drop_succ_cons, List.nil_append, List.cons_append, e1, e2, cj, e4, hd, t1, t2, Int.toNat_zero, Nat.zero_mul, Nat.mul_one, List.take_zero, List.take_succ_cons, List.drop_zero, List.drop_succ_cons, List.nil_append, List.cons_append] <;> rfl) (by simp only [go_sem] <;> rfl) ?_
            refine Run.nil ?_
            refine BlkK.nrm ?_
            refine Exec.reg1 ?_
            refine Run.op (by simp only [go_sem, ea, eb, ew, Int.toNat_zero, Nat.zero_mul, Nat.mul_one, List.take_zero, List.take_succ_cons, List.drop_zero, List.drop_succ_cons, List.nil_append, List.cons_append, e1, e2, cj, e4, hd, t1, t2, Int.toNat_zero, Nat.zero_mul, Nat.mul_one, List.take_zero, List.take_succ_cons, List.drop_zero, List.drop_succ_cons, List.nil_append, List.cons_append] <;> rfl) (by simp only [go_sem] <;> rfl) ?_
            refine Run.op (by simp only [go_sem, ea, eb, ew, Int.toNat_zero, Nat.zero_mul, Nat.mul_one, List.take_zero, List.take_succ_cons, List.drop_zero, List.drop_succ_cons, List.nil_append, List.cons_append, e1, e2, cj, e4, hd, t1, t2, Int.toNat_zero, Nat.zero_mul, Nat.mul_one, List.take_zero, List.take_succ_cons, List.drop_zero, List.drop_succ_cons, List.nil_append, List.cons_append]; (try simp (disch := omega) only [IntWalk.i64_in, IntWalk.u64_in, if_neg, if_pos])<;> rfl) (by simp only [go_sem] <;> rfl) ?_
            refine Run.op (by simp only [go_sem, ea, eb, ew, Int.toNat_zero, Nat.zero_mul, Nat.mul_one, List.take_zero, List.take_succ_cons, List.drop_zero, List.drop_succ_cons, List.nil_append, List.cons_append, e1, e2, cj, e4, hd, t1, t2, Int.toNat_zero, Nat.zero_mul, Nat.mul_one, List.take_zero, List.take_succ_cons, List.drop_zero, List.drop_succ_cons, List.nil_append, List.cons_append] <;> rfl) (by simp only [go_sem] <;> rfl) ?_
            refine Run.nil ?_
            refine ForK.nxt ?_ ?_ ?_
            · omega
            · exact Ghost.kp [2, 3, 4] [2] (by simp only [go_sem, ea, eb, ew, Int.toNat_zero, Nat.zero_mul, Nat.mul_one, List.take_zero, List.take_succ_cons, List.drop_zero, List.drop_succ_cons, List.nil_append, List.cons_append, e1, e2, cj, e4, hd, t1, t2, Int.toNat_zero, Nat.zero_mul, Nat.mul_one, List.take_zero, List.take_succ_cons, List.drop_zero, List.drop_succ_cons, List.nil_append, List.cons_append]; first | ((repeat' (first | with_reducible_and_instances rfl | refine st_eq ?_ ?_ ?_ | refine ret_eq ?_ | refine tup_eq ?_ | refine tm_eq ?_ ?_ | refine arr_eq ?_ | refine cells_eq ?_ | refine val_eq ?_ | refine ls_eq ?_ ?_ | refine own_eq ?_ ?_ | refine sl_eq ?_ | refine b_eq ?_ | (refine i_eq ?_; omega))); (all_goals (first | rfl | omega | (simp [cellP]; done) | (simp [cellP, hd]; done)))) | rfl)
            · trivial
          · skip
            skip
            by_cases hk3 : k = 3
            · skip
              subst hk3
              have hd : t / (1000 * pow10 5) = t / (1000 * pow10 4) / 10 := pow10_div t 4
              have hb := place_bnd t 3
              have h0 : 0 ≤ t / (1000 * pow10 4) := Int.ediv_nonneg ht.1 (by have := pow10_pos 4; omega)
              have h1 : t / (1000 * pow10 4) ≤ t := Int.ediv_le_self _ ht.1
              have e1 : (t / (1000 * pow10 4)).tmod 10 = t / (1000 * pow10 4) % 10 := tmod_e h0
              have e2 : (t / (1000 * pow10 4)).tdiv 10 = t / (1000 * pow10 4) / 10 := tdiv_e h0
              have e3 : placeD t 4 = 1000 * (t / (1000 * pow10 4) % 10) + max 0 (placeD t 3 - 9000) := rfl
              have e4 : t / (1000 * pow10 4) % 10 * 1000 + max 0 (placeD t 3 - 9000) = placeD t 4 := by have := e3; omega
              have hb2 := place_bnd t 4
              have cj : cellP t 3 3 = placeD t 3 := rfl
              have t1 : (((3 : Nat) : Int) + 1).toNat = 4 := rfl
              have t2 : (((3 : Nat) : Int) + 1 - 1).toNat = 3 := rfl
              refine Exec.reg ?_
              iterate 2 (refine Run.op (by simp only [go_sem, ea, eb, ew, Int.toNat_zero, Nat.zero_mul, Nat.mul_one, List.take_zero, List.take_succ_cons, List.drop_zero, List.drop_succ_cons, List.nil_append, List.cons_append, e1, e2, cj, e4, hd, t1, t2, Int.toNat_zero, Nat.zero_mul, Nat.mul_one, List.take_zero, List.take_succ_cons, List.drop_zero, List.drop_succ_cons, List.nil_append, List.cons_append] <;> rfl) (by simp only [go_sem] <;> rfl) ?_)
              refine Run.op (by simp only [go_sem, ea, eb, ew, Int.toNat_zero, Nat.zero_mul, Nat.mul_one, List.take_zero, List.take_succ_cons, List.drop_zero, List.drop_succ_cons, List.nil_append, List.cons_append, e1, e2, cj, e4, hd, t1, t2, Int.toNat_zero, Nat.zero_mul, Nat.mul_one, List.take_zero, List.take_succ_cons, List.drop_zero, List.drop_succ_cons, List.nil_append, List.cons_append]; (try simp (disch := omega) only [IntWalk.i64_in, IntWalk.u64_in, if_neg, if_pos])<;> rfl) (by simp only [go_sem] <;> rfl) ?_
              refine Run.op (by simp only [go_sem, ea, eb, ew, Int.toNat_zero, Nat.zero_mul, Nat.mul_one, List.take_zero, List.take_succ_cons, List.drop_zero, List.drop_succ_cons, List.nil_append, List.cons_append, e1, e2, cj, e4, hd, t1, t2, Int.toNat_zero, Nat.zero_mul, Nat.mul_one, List.take_zero, List.take_succ_cons, List.drop_zero, List.drop_succ_cons, List.nil_append, List.cons_append]; (try simp (disch := omega) only [IntWalk.i64_in, IntWalk.u64_in, if_neg, if_pos])<;> rfl) (by simp only [go_sem] <;> rfl) ?_
              refine Run.op (by simp only [go_sem, ea, eb, ew, Int.toNat_zero, Nat.zero_mul, Nat.mul_one, List.take_zero, List.take_succ_cons, List.drop_zero, List.drop_succ_cons, List.nil_append, List.cons_append, e1, e2, cj, e4, hd, t1, t2, Int.toNat_zero, Nat.zero_mul, Nat.mul_one, List.take_zero, List.take_succ_cons, List.drop_zero, List.drop_succ_cons, List.nil_append, List.cons_append] <;> rfl) (by simp only [go_sem] <;> rfl) ?_
              refine Run.op (by simp only [go_sem, ea, eb, ew, Int.toNat_zero, Nat.zero_mul, Nat.mul_one, List.take_zero, List.take_succ_cons, List.drop_zero, List.drop_succ_cons, List.nil_append, List.cons_append, e1, e2, cj, e4, hd, t1, t2, Int.toNat_zero, Nat.zero_mul, Nat.mul_one, List.take_zero, List.take_succ_cons, List.drop_zero, List.drop_succ_cons, List.nil_append, List.cons_append]; (try simp (disch := omega) only [IntWalk.i64_in, IntWalk.u64_in, if_neg, if_pos])<;> rfl) (by simp only [go_sem] <;> rfl) ?_
              refine Run.op (by simp only [go_sem, ea, eb, ew, Int.toNat_zero, Nat.zero_mul, Nat.mul_one, List.take_zero, List.take_succ_cons, List.drop_zero, List.drop_succ_cons, List.nil_append, List.cons_append, e1, e2, cj, e4, hd, t1, t2, Int.toNat_zero, Nat.zero_mul, Nat.mul_one, List.take_zero, List.take_succ_cons, List.drop_zero, List.drop_succ_cons, List.nil_append, List.cons_append]; (try simp (disch := omega) only [if_pos]); (try simp only [go_sem, ea, eb, ew, Int.toNat_zero, Nat.zero_mul, Nat.mul_one, List.take_zero, List.take_succ_cons, List.drop_zero, List.drop_succ_cons, List.nil_append, List.cons_append, e1, e2, cj, e4, hd, t1, t2, Int.toNat_zero, Nat.zero_mul, Nat.mul_one, List.take_zero, List.take_succ_cons, List.drop_zero, List.drop_succ_cons, List.nil_append, List.cons_append])<;> rfl) (by simp only [go_sem] <;> rfl) ?_
              refine Run.op (by simp only [go_sem, ea, eb, ew, Int.toNat_zero, Nat.zero_mul, Nat.mul_one, List.take_zero, List.take_succ_cons, List.drop_zero, List.drop_succ_cons, List.nil_append, List.cons_append, e1, e2, cj, e4, hd, t1, t2, Int.toNat_zero, Nat.zero_mul, Nat.mul_one, List.take_zero, List.take_succ_cons, List.drop_zero, List.drop_succ_cons, List.nil_append, List.cons_append] <;> rfl) (by simp only [go_sem] <;> rfl) ?_
              refine Run.cal (c_drum_place_carry (placeD t 3) (by omega)) (by simp only [go_sem]) (by simp only [go_sem, ea, eb, ew, Int.toNat_zero, Nat.zero_mul, Nat.mul_one, List.take_zero, List.take_succ_cons, List.drop_zero, List.drop_succ_cons, List.nil_append, List.cons_append, e1, e2, cj, e4, hd, t1, t2, Int.toNat_zero, Nat.zero_mul, Nat.mul_one, List.take_zero, List.take_succ_cons, List.drop_zero, List.drop_succ_cons, List.nil_append, List.cons_append] <;> rfl) (by exact ⟨by first | exact WkR.pure rfl | exact WkR.nil _ | exact WkR.int (by first | omega | (simp; done) | (simp; omega)), trivial⟩) (fr0) (by simp only [go_sem, ea, eb, ew, Int.toNat_zero, Nat.zero_mul, Nat.mul_one, List.take_zero, List.take_succ_cons, List.drop_zero, List.drop_succ_cons, List.nil_append, List.cons_append, e1, e2, cj, e4, hd, t1, t2, Int.toNat_zero, Nat.zero_mul, Nat.mul_one, List.take_zero, List.take_succ_cons, List.drop_zero, List.drop_succ_cons, List.nil_append, List.cons_append] <;> rfl) ?_
              refine Run.op (by simp only [go_sem, ea, eb, ew, Int.toNat_zero, Nat.zero_mul, Nat.mul_one, List.take_zero, List.take_succ_cons, List.drop_zero, List.drop_succ_cons, List.nil_append, List.cons_append, e1, e2, cj, e4, hd, t1, t2, Int.toNat_zero, Nat.zero_mul, Nat.mul_one, List.take_zero, List.take_succ_cons, List.drop_zero, List.drop_succ_cons, List.nil_append, List.cons_append]; (try simp (disch := omega) only [IntWalk.i64_in, IntWalk.u64_in, if_neg, if_pos])<;> rfl) (by simp only [go_sem] <;> rfl) ?_
              refine Run.op (by simp only [go_sem, ea, eb, ew, Int.toNat_zero, Nat.zero_mul, Nat.mul_one, List.take_zero, List.take_succ_cons, List.drop_zero, List.drop_succ_cons, List.nil_append, List.cons_append, e1, e2, cj, e4, hd, t1, t2, Int.toNat_zero, Nat.zero_mul, Nat.mul_one, List.take_zero, List.take_succ_cons, List.drop_zero, List.drop_succ_cons, List.nil_append, List.cons_append]; (try simp (disch := omega) only [if_pos]); (try simp only [go_sem, ea, eb, ew, Int.toNat_zero, Nat.zero_mul, Nat.mul_one, List.take_zero, List.take_succ_cons, List.drop_zero, List.drop_succ_cons, List.nil_append, List.cons_append, e1, e2, cj, e4, hd, t1, t2, Int.toNat_zero, Nat.zero_mul, Nat.mul_one, List.take_zero, List.take_succ_cons, List.drop_zero, List.drop_succ_cons, List.nil_append, List.cons_append])<;> rfl) (by simp only [go_sem] <;> rfl) ?_
              refine Run.op (by simp only [go_sem, ea, eb, ew, Int.toNat_zero, Nat.zero_mul, Nat.mul_one, List.take_zero, List.take_succ_cons, List.drop_zero, List.drop_succ_cons, List.nil_append, List.cons_append, e1, e2, cj, e4, hd, t1, t2, Int.toNat_zero, Nat.zero_mul, Nat.mul_one, List.take_zero, List.take_succ_cons, List.drop_zero, List.drop_succ_cons, List.nil_append, List.cons_append] <;> rfl) (by simp only [go_sem] <;> rfl) ?_
              refine Run.nil ?_
              refine Exec.reg1 ?_
              refine Run.op (by simp only [go_sem, ea, eb, ew, Int.toNat_zero, Nat.zero_mul, Nat.mul_one, List.take_zero, List.take_succ_cons, List.drop_zero, List.drop_succ_cons, List.nil_append, List.cons_append, e1, e2, cj, e4, hd, t1, t2, Int.toNat_zero, Nat.zero_mul, Nat.mul_one, List.take_zero, List.take_succ_cons, List.drop_zero, List.drop_succ_cons, List.nil_append, List.cons_append] <;> rfl) (by simp only [go_sem] <;> rfl) ?_
              refine Run.op (by simp only [go_sem, ea, eb, ew, Int.toNat_zero, Nat.zero_mul, Nat.mul_one, List.take_zero, List.take_succ_cons, List.drop_zero, List.drop_succ_cons, List.nil_append, List.cons_append, e1, e2, cj, e4, hd, t1, t2, Int.toNat_zero, Nat.zero_mul, Nat.mul_one, List.take_zero, List.take_succ_cons, List.drop_zero, List.drop_succ_cons, List.nil_append, List.cons_append]; (try simp (disch := omega) only [IntWalk.i64_in, IntWalk.u64_in, if_neg, if_pos])<;> rfl) (by simp only [go_sem] <;> rfl) ?_
              refine Run.op (by simp only [go_sem, ea, eb, ew, Int.toNat_zero, Nat.zero_mul, Nat.mul_one, List.take_zero, List.take_succ_cons, List.drop_zero, List.drop_succ_cons, List.nil_append, List.cons_append, e1, e2, cj, e4, hd, t1, t2, Int.toNat_zero, Nat.zero_mul, Nat.mul_one, List.take_zero, List.take_succ_cons, List.drop_zero, List.drop_succ_cons, List.nil_append, List.cons_append] <;> rfl) (by simp only [go_sem] <;> rfl) ?_
              refine Run.nil ?_
              refine BlkK.nrm ?_
              refine Exec.reg1 ?_
              refine Run.op (by simp only [go_sem, ea, eb, ew, Int.toNat_zero, Nat.zero_mul, Nat.mul_one, List.take_zero, List.take_succ_cons, List.drop_zero, List.drop_succ_cons, List.nil_append, List.cons_append, e1, e2, cj, e4, hd, t1, t2, Int.toNat_zero, Nat.zero_mul, Nat.mul_one, List.take_zero, List.take_succ_cons, List.drop_zero, List.drop_succ_cons, List.nil_append, List.cons_append] <;> rfl) (by simp only [go_sem] <;> rfl) ?_
              refine Run.op (by simp only [go_sem, ea, eb, ew, Int.toNat_zero, Nat.zero_mul, Nat.mul_one, List.take_zero, List.take_succ_cons, List.drop_zero, List.drop_succ_cons, List.nil_append, List.cons_append, e1, e2, cj, e4, hd, t1, t2, Int.toNat_zero, Nat.zero_mul, Nat.mul_one, List.take_zero, List.take_succ_cons, List.drop_zero, List.drop_succ_cons, List.nil_append, List.cons_append]; (try simp (disch := omega) only [IntWalk.i64_in, IntWalk.u64_in, if_neg, if_pos])<;> rfl) (by simp only [go_sem] <;> rfl) ?_
              refine Run.op (by simp only [go_sem, ea, eb, ew, Int.toNat_zero, Nat.zero_mul, Nat.mul_one, List.take_zero, List.take_succ_cons, List.drop_zero, List.drop_succ_cons, List.nil_append, List.cons_append, e1, e2, cj, e4, hd, t1, t2, Int.toNat_zero, Nat.zero_mul, Nat.mul_one, List.take_zero, List.take_succ_cons, List.drop_zero, List.drop_succ_cons, List.nil_append, List.cons_append] <;> rfl) (by simp only [go_sem] <;> rfl) ?_
              refine Run.nil ?_
              refine ForK.nxt ?_ ?_ ?_
              · omega
              · exact Ghost.kp [2, 3, 4] [2] (by simp only [go_sem, ea, eb, ew, Int.toNat_zero, Nat.zero_mul, Nat.mul_one, List.take_zero, List.take_succ_cons, List.drop_zero, List.drop_succ_cons, List.nil_append, List.cons_append, e1, e2, cj, e4, hd, t1, t2, Int.toNat_zero, Nat.zero_mul, Nat.mul_one, List.take_zero, List.take_succ_cons, List.drop_zero, List.drop_succ_cons, List.nil_append, List.cons_append]; first | ((repeat' (first | with_reducible_and_instances rfl | refine st_eq ?_ ?_ ?_ | refine ret_eq ?_ | refine tup_eq ?_ | refine tm_eq ?_ ?_ | refine arr_eq ?_ | refine cells_eq ?_ | refine val_eq ?_ | refine ls_eq ?_ ?_ | refine own_eq ?_ ?_ | refine sl_eq ?_ | refine b_eq ?_ | (refine i_eq ?_; omega))); (all_goals (first | rfl | omega | (simp [cellP]; done) | (simp [cellP, hd]; done)))) | rfl)
              · trivial
            · skip
              have hk4 : k = 4 := by omega
              subst hk4
              have hd : t / (1000 * pow10 6) = t / (1000 * pow10 5) / 10 := pow10_div t 5
              have hb := place_bnd t 4
              have h0 : 0 ≤ t / (1000 * pow10 5) := Int.ediv_nonneg ht.1 (by have := pow10_pos 5; omega)
              have h1 : t / (1000 * pow10 5) ≤ t := Int.ediv_le_self _ ht.1
              have e1 : (t / (1000 * pow10 5)).tmod 10 = t / (1000 * pow10 5) % 10 := tmod_e h0
              have e2 : (t / (1000 * pow10 5)).tdiv 10 = t / (1000 * pow10 5) / 10 := tdiv_e h0
              have e3 : placeD t 5 = 1000 * (t / (1000 * pow10 5) % 10) + max 0 (placeD t 4 - 9000) := rfl
              have e4 : t / (1000 * pow10 5) % 10 * 1000 + max 0 (placeD t 4 - 9000) = placeD t 5 := by have := e3; omega
              have hb2 := place_bnd t 5
              have cj : cellP t 4 4 = placeD t 4 := rfl
              have t1 : (((4 : Nat) : Int) + 1).toNat = 5 := rfl
              have t2 : (((4 : Nat) : Int) + 1 - 1).toNat = 4 := rfl
              refine Exec.reg ?_
              iterate 2 (refine Run.op (by simp only [go_sem, ea, eb, ew, Int.toNat_zero, Nat.zero_mul, Nat.mul_one, List.take_zero, List.take_succ_cons, List.drop_zero, List.drop_succ_cons, List.nil_append, List.cons_append, e1, e2, cj, e4, hd, t1, t2, Int.toNat_zero, Nat.zero_mul, Nat.mul_one, List.take_zero, List.take_succ_cons, List.drop_zero, List.drop_succ_cons, List.nil_append, List.cons_append] <;> rfl) (by simp only [go_sem] <;> rfl) ?_)
              refine Run.op (by simp only [go_sem, ea, eb, ew, Int.toNat_zero, Nat.zero_mul, Nat.mul_one, List.take_zero, List.take_succ_cons, List.drop_zero, List.drop_succ_cons, List.nil_append, List.cons_append, e1, e2, cj, e4, hd, t1, t2, Int.toNat_zero, Nat.zero_mul, Nat.mul_one, List.take_zero, List.take_succ_cons, List.drop_zero, List.drop_succ_cons, List.nil_append, List.cons_append]; (try simp (disch := omega) only [IntWalk.i64_in, IntWalk.u64_in, if_neg, if_pos])<;> rfl) (by simp only [go_sem] <;> rfl) ?_
              refine Run.op (by simp only [go_sem, ea, eb, ew, Int.toNat_zero, Nat.zero_mul, Nat.mul_one, List.take_zero, List.take_succ_cons, List.drop_zero, List.drop_succ_cons, List.nil_append, List.cons_append, e1, e2, cj, e4, hd, t1, t2, Int.toNat_zero, Nat.zero_mul, Nat.mul_one, List.take_zero, List.take_succ_cons, List.drop_zero, List.drop_succ_cons, List.nil_append, List.cons_append]; (try simp (disch := omega) only [IntWalk.i64_in, IntWalk.u64_in, if_neg, if_pos])<;> rfl) (by simp only [go_sem] <;> rfl) ?_
              refine Run.op (by simp only [go_sem, ea, eb, ew, Int.toNat_zero, Nat.zero_mul, Nat.mul_one, List.take_zero, List.take_succ_cons, List.drop_zero, List.drop_succ_cons, List.nil_append, List.cons_append, e1, e2, cj, e4, hd, t1, t2, Int.toNat_zero, Nat.zero_mul, Nat.mul_one, List.take_zero, List.take_succ_cons, List.drop_zero, List.drop_succ_cons, List.nil_append, List.cons_append] <;> rfl) (by simp only [go_sem] <;> rfl) ?_
              refine Run.op (by simp only [go_sem, ea, eb, ew, Int.toNat_zero, Nat.zero_mul, Nat.mul_one, List.take_zero, List.take_succ_cons, List.drop_zero, List.drop_succ_cons, List.nil_append, List.cons_append, e1, e2, cj, e4, hd, t1, t2, Int.toNat_zero, Nat.zero_mul, Nat.mul_one, List.take_zero, List.take_succ_cons, List.drop_zero, List.drop_succ_cons, List.nil_append, List.cons_append]; (try simp (disch := omega) only [IntWalk.i64_in, IntWalk.u64_in, if_neg, if_pos])<;> rfl) (by simp only [go_sem] <;> rfl) ?_
              refine Run.op (by simp only [go_sem, ea, eb, ew, Int.toNat_zero, Nat.zero_mul, Nat.mul_one, List.take_zero, List.take_succ_cons, List.drop_zero, List.drop_succ_cons, List.nil_append, List.cons_append, e1, e2, cj, e4, hd, t1, t2, Int.toNat_zero, Nat.zero_mul, Nat.mul_one, List.take_zero, List.take_succ_cons, List.drop_zero, List.drop_succ_cons, List.nil_append, List.cons_append]; (try simp (disch := omega) only [if_pos]); (try simp only [go_sem, ea, eb, ew, Int.toNat_zero, Nat.zero_mul, Nat.mul_one, List.take_zero, List.take_succ_cons, List.drop_zero, List.drop_succ_cons, List.nil_append, List.cons_append, e1, e2, cj, e4, hd, t1, t2, Int.toNat_zero, Nat.zero_mul, Nat.mul_one, List.take_zero, List.take_succ_cons, List.drop_zero, List.drop_succ_cons, List.nil_append, List.cons_append])<;> rfl) (by simp only [go_sem] <;> rfl) ?_
              refine Run.op (by simp only [go_sem, ea, eb, ew, Int.toNat_zero, Nat.zero_mul, Nat.mul_one, List.take_zero, List.take_succ_cons, List.drop_zero, List.drop_succ_cons, List.nil_append, List.cons_append, e1, e2, cj, e4, hd, t1, t2, Int.toNat_zero, Nat.zero_mul, Nat.mul_one, List.take_zero, List.take_succ_cons, List.drop_zero, List.drop_succ_cons, List.nil_append, List.cons_append] <;> rfl) (by simp only [go_sem] <;> rfl) ?_
              refine Run.cal (c_drum_place_carry (placeD t 4) (by omega)) (by simp only [go_sem]) (by simp only [go_sem, ea, eb, ew, Int.toNat_zero, Nat.zero_mul, Nat.mul_one, List.take_zero, List.take_succ_cons, List.drop_zero, List.drop_succ_cons, List.nil_append, List.cons_append, e1, e2, cj, e4, hd, t1, t2, Int.toNat_zero, Nat.zero_mul, Nat.mul_one, List.take_zero, List.take_succ_cons, List.drop_zero, List.drop_succ_cons, List.nil_append, List.cons_append] <;> rfl) (by exact ⟨by first | exact WkR.pure rfl | exact WkR.nil _ | exact WkR.int (by first | omega | (simp; done) | (simp; omega)), trivial⟩) (fr0) (by simp only [go_sem, ea, eb, ew, Int.toNat_zero, Nat.zero_mul, Nat.mul_one, List.take_zero, List.take_succ_cons, List.drop_zero, List.drop_succ_cons, List.nil_append, List.cons_append, e1, e2, cj, e4, hd, t1, t2, Int.toNat_zero, Nat.zero_mul, Nat.mul_one, List.take_zero, List.take_succ_cons, List.drop_zero, List.drop_succ_cons, List.nil_append, List.cons_append] <;> rfl) ?_
              refine Run.op (by simp only [go_sem, ea, eb, ew, Int.toNat_zero, Nat.zero_mul, Nat.mul_one, List.take_zero, List.take_succ_cons, List.drop_zero, List.drop_succ_cons, List.nil_append, List.cons_append, e1, e2, cj, e4, hd, t1, t2, Int.toNat_zero, Nat.zero_mul, Nat.mul_one, List.take_zero, List.take_succ_cons, List.drop_zero, List.drop_succ_cons, List.nil_append, List.cons_append]; (try simp (disch := omega) only [IntWalk.i64_in, IntWalk.u64_in, if_neg, if_pos])<;> rfl) (by simp only [go_sem] <;> rfl) ?_
              refine Run.op (by simp only [go_sem, ea, eb, ew, Int.toNat_zero, Nat.zero_mul, Nat.mul_one, List.take_zero, List.take_succ_cons, List.drop_zero, List.drop_succ_cons, List.nil_append, List.cons_append, e1, e2, cj, e4, hd, t1, t2, Int.toNat_zero, Nat.zero_mul, Nat.mul_one, List.take_zero, List.take_succ_cons, List.drop_zero, List.drop_succ_cons, List.nil_append, List.cons_append]; (try simp (disch := omega) only [if_pos]); (try simp only [go_sem, ea, eb, ew, Int.toNat_zero, Nat.zero_mul, Nat.mul_one, List.take_zero, List.take_succ_cons, List.drop_zero, List.drop_succ_cons, List.nil_append, List.cons_append, e1, e2, cj, e4, hd, t1, t2, Int.toNat_zero, Nat.zero_mul, Nat.mul_one, List.take_zero, List.take_succ_cons, List.drop_zero, List.drop_succ_cons, List.nil_append, List.cons_append])<;> rfl) (by simp only [go_sem] <;> rfl) ?_
              refine Run.op (by simp only [go_sem, ea, eb, ew, Int.toNat_zero, Nat.zero_mul, Nat.mul_one, List.take_zero, List.take_succ_cons, List.drop_zero, List.drop_succ_cons, List.nil_append, List.cons_append, e1, e2, cj, e4, hd, t1, t2, Int.toNat_zero, Nat.zero_mul, Nat.mul_one, List.take_zero, List.take_succ_cons, List.drop_zero, List.drop_succ_cons, List.nil_append, List.cons_append] <;> rfl) (by simp only [go_sem] <;> rfl) ?_
              refine Run.nil ?_
              refine Exec.reg1 ?_
              refine Run.op (by simp only [go_sem, ea, eb, ew, Int.toNat_zero, Nat.zero_mul, Nat.mul_one, List.take_zero, List.take_succ_cons, List.drop_zero, List.drop_succ_cons, List.nil_append, List.cons_append, e1, e2, cj, e4, hd, t1, t2, Int.toNat_zero, Nat.zero_mul, Nat.mul_one, List.take_zero, List.take_succ_cons, List.drop_zero, List.drop_succ_cons, List.nil_append, List.cons_append] <;> rfl) (by simp only [go_sem] <;> rfl) ?_
              refine Run.op (by simp only [go_sem, ea, eb, ew, Int.toNat_zero, Nat.zero_mul, Nat.mul_one, List.take_zero, List.take_succ_cons, List.drop_zero, List.drop_succ_cons, List.nil_append, List.cons_append, e1, e2, cj, e4, hd, t1, t2, Int.toNat_zero, Nat.zero_mul, Nat.mul_one, List.take_zero, List.take_succ_cons, List.drop_zero, List.drop_succ_cons, List.nil_append, List.cons_append]; (try simp (disch := omega) only [IntWalk.i64_in, IntWalk.u64_in, if_neg, if_pos])<;> rfl) (by simp only [go_sem] <;> rfl) ?_
              refine Run.op (by simp only [go_sem, ea, eb, ew, Int.toNat_zero, Nat.zero_mul, Nat.mul_one, List.take_zero, List.take_succ_cons, List.drop_zero, List.drop_succ_cons, List.nil_append, List.cons_append, e1, e2, cj, e4, hd, t1, t2, Int.toNat_zero, Nat.zero_mul, Nat.mul_one, List.take_zero, List.take_succ_cons, List.drop_zero, List.drop_succ_cons, List.nil_append, List.cons_append] <;> rfl) (by simp only [go_sem] <;> rfl) ?_
              refine Run.nil ?_
              refine BlkK.nrm ?_
              refine Exec.reg1 ?_
              refine Run.op (by simp only [go_sem, ea, eb, ew, Int.toNat_zero, Nat.zero_mul, Nat.mul_one, List.take_zero, List.take_succ_cons, List.drop_zero, List.drop_succ_cons, List.nil_append, List.cons_append, e1, e2, cj, e4, hd, t1, t2, Int.toNat_zero, Nat.zero_mul, Nat.mul_one, List.take_zero, List.take_succ_cons, List.drop_zero, List.drop_succ_cons, List.nil_append, List.cons_append] <;> rfl) (by simp only [go_sem] <;> rfl) ?_
              refine Run.op (by simp only [go_sem, ea, eb, ew, Int.toNat_zero, Nat.zero_mul, Nat.mul_one, List.take_zero, List.take_succ_cons, List.drop_zero, List.drop_succ_cons, List.nil_append, List.cons_append, e1, e2, cj, e4, hd, t1, t2, Int.toNat_zero, Nat.zero_mul, Nat.mul_one, List.take_zero, List.take_succ_cons, List.drop_zero, List.drop_succ_cons, List.nil_append, List.cons_append]; (try simp (disch := omega) only [IntWalk.i64_in, IntWalk.u64_in, if_neg, if_pos])<;> rfl) (by simp only [go_sem] <;> rfl) ?_
              refine Run.op (by simp only [go_sem, ea, eb, ew, Int.toNat_zero, Nat.zero_mul, Nat.mul_one, List.take_zero, List.take_succ_cons, List.drop_zero, List.drop_succ_cons, List.nil_append, List.cons_append, e1, e2, cj, e4, hd, t1, t2, Int.toNat_zero, Nat.zero_mul, Nat.mul_one, List.take_zero, List.take_succ_cons, List.drop_zero, List.drop_succ_cons, List.nil_append, List.cons_append] <;> rfl) (by simp only [go_sem] <;> rfl) ?_
              refine Run.nil ?_
              refine ForK.nxt ?_ ?_ ?_
              · omega
              · exact Ghost.kp [2, 3, 4] [2] (by simp only [go_sem, ea, eb, ew, Int.toNat_zero, Nat.zero_mul, Nat.mul_one, List.take_zero, List.take_succ_cons, List.drop_zero, List.drop_succ_cons, List.nil_append, List.cons_append, e1, e2, cj, e4, hd, t1, t2, Int.toNat_zero, Nat.zero_mul, Nat.mul_one, List.take_zero, List.take_succ_cons, List.drop_zero, List.drop_succ_cons, List.nil_append, List.cons_append]; first | ((repeat' (first | with_reducible_and_instances rfl | refine st_eq ?_ ?_ ?_ | refine ret_eq ?_ | refine tup_eq ?_ | refine tm_eq ?_ ?_ | refine arr_eq ?_ | refine cells_eq ?_ | refine val_eq ?_ | refine ls_eq ?_ ?_ | refine own_eq ?_ ?_ | refine sl_eq ?_ | refine b_eq ?_ | (refine i_eq ?_; omega))); (all_goals (first | rfl | omega | (simp [cellP]; done) | (simp [cellP, hd]; done)))) | rfl)
              · trivial
    · skip
      have hke : k = 5 := by have := of_decide_eq_false hb11; omega
      subst hke
      refine Exec.exitS ?_
      refine ForK.ext ?_
      refine BlkK.hit ?_
      refine Exec.reg ?_
      iterate 2 (refine Run.op (by simp only [go_sem, ea, eb, ew, Int.toNat_zero, Nat.zero_mul, Nat.mul_one, List.take_zero, List.take_succ_cons, List.drop_zero, List.drop_succ_cons, List.nil_append, List.cons_append] <;> rfl) (by simp only [go_sem] <;> rfl) ?_)
      refine Run.nil ?_
      exact Ends.fin [] (rs := [.cell 2 69]) rfl (by simp only [go_sem, ea, eb, ew, Int.toNat_zero, Nat.zero_mul, Nat.mul_one, List.take_zero, List.take_succ_cons, List.drop_zero, List.drop_succ_cons, List.nil_append, List.cons_append] <;> rfl) (by simp only [go_sem, ea, eb, ew, Int.toNat_zero, Nat.zero_mul, Nat.mul_one, List.take_zero, List.take_succ_cons, List.drop_zero, List.drop_succ_cons, List.nil_append, List.cons_append] <;> first | rfl | ((repeat' (first | with_reducible_and_instances rfl | refine st_eq ?_ ?_ ?_ | refine ret_eq ?_ | refine tup_eq ?_ | refine tm_eq ?_ ?_ | refine arr_eq ?_ | refine cells_eq ?_ | refine val_eq ?_ | refine ls_eq ?_ ?_ | refine own_eq ?_ ?_ | refine sl_eq ?_ | refine b_eq ?_ | (refine i_eq ?_; omega))); done))

end Go.Mw

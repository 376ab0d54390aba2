/- Contracts of the functions that the drum reaches, lent an array: runs. -/
import Derived.Test.YtenpjhnppaipbaaB10
import Derived.Test.YtenpjhnppaipbaaB3
set_option linter.unusedSimpArgs false
set_option linter.unusedVariables false
set_option linter.unusedSectionVars false
set_option linter.deprecated false
namespace Go.Mw
open Go.Proofs
open Go.Dr
set_option maxRecDepth 20000 in
/-- slices.IndexFunc[[]int,int] -/
theorem c_IndexFunc_l {g : FuncId} {ds : List D} (p : Int → Bool) (hg : canCall Try.prog g = true) (hp : ∀ s, Contract Try.prog g (.int s :: ds.map fun x => .leaf (.d x)) (.bool (p s)) []) (l : List Int) (hl : l.length ≤ 1000) : Con Try.prog 51 [.leaf (.own 900 0 l.length l.length), .leaf (.d (.fn g ds))] [(900, .arr 3 1 (l.map encInt))] (.ret (.int (idxI (l.findIdx? p))) [(900, .arr 3 1 (l.map encInt))]) := by
  refine con_of follows_mixed Try.func51 rfl (by simp only [List.length_cons, List.length_nil, Try.ntmps51]; omega) (by kernel_rfl) rfl ?_
  refine Exec.reg ?_
  refine Run.op (by simp only [go_sem] <;> rfl) (by simp only [go_sem] <;> rfl) ?_
  refine Run.nil ?_
  refine Exec.assocS ?_
  refine Exec.reg ?_
  iterate 3 (refine Run.op (by simp only [go_sem] <;> rfl) (by simp only [go_sem] <;> rfl) ?_)
  refine Run.nil ?_
  refine Exec.blk ?_
  refine Exec.forA [0, 1, 7, 8] [900] (l.length) (fun k => [.slot 8 (.int k)]) (fun k => (l.take k).any p = false) (fun k => by simp only [go_sem] <;> rfl) (by simp only [go_sem] <;> rfl) ?_ (fun k hk hX => ?_)
  · rfl
  · skip
    refine Exec.reg ?_
    refine Run.op (by simp only [go_sem] <;> rfl) (by simp only [go_sem] <;> rfl) ?_
    refine Run.nil ?_
    refine Exec.cndS (by simp only [go_sem] <;> rfl) (fun hb9 => ?_) (fun hb9 => ?_)
    · skip
      have hlt := lt_of_dec hb9
      obtain ⟨s, hs⟩ := elem_of hb9
      refine Exec.skipS ?_
      refine Exec.blk ?_
      refine Exec.reg ?_
      iterate 2 (refine Run.op (by simp only [go_sem, hs] <;> rfl) (by simp only [go_sem] <;> rfl) ?_)
      refine Run.nil ?_
      refine Exec.reg ?_
      iterate 3 (refine Run.op (by simp only [go_sem, hs] <;> rfl) (by simp only [go_sem] <;> rfl) ?_)
      refine Run.op (by simp only [go_sem, hs]; (try simp (disch := omega) only [if_pos]); (try simp only [go_sem, hs])<;> rfl) (by simp only [go_sem] <;> rfl) ?_
      refine Run.op (by simp only [go_sem, hs] <;> rfl) (by simp only [go_sem] <;> rfl) ?_
      refine Run.calw (by simp only [go_sem] <;> rfl) (hp s) (by assumption) (by simp only [go_sem, hs] <;> rfl) (by simp only [go_sem, hs] <;> rfl) (by exact ⟨by first | exact WkR.pure rfl | exact WkR.nil _ | exact WkR.int (by omega), wkr_caps _ _ _⟩) (fr0) (by simp only [go_sem, hs] <;> rfl) ?_
      refine Run.nil ?_
      refine Exec.cnd (by simp only [go_sem, hs] <;> rfl) (fun hb16 => ?_) (fun hb16 => ?_)
      · skip
        have hr := find_at hX hs hb16
        refine Exec.reg ?_
        iterate 2 (refine Run.op (by simp only [go_sem, hs, hr, idxI] <;> rfl) (by simp only [go_sem] <;> rfl) ?_)
        refine Run.nil ?_
        refine BlkK.ret ?_
        refine ForK.ret ?_
        refine BlkK.ret ?_
        exact Ends.fin [900] (rs := [.tmp 4]) rfl (by simp only [go_sem, hs, hr, idxI] <;> rfl) (by simp only [go_sem, hs, hr, idxI] <;> first | rfl | ((repeat' (first | with_reducible_and_instances rfl | refine st_eq ?_ ?_ ?_ | refine ret_eq ?_ | refine tup_eq ?_ | refine tm_eq ?_ ?_ | refine arr_eq ?_ | refine cells_eq ?_ | refine val_eq ?_ | refine ls_eq ?_ ?_ | refine own_eq ?_ ?_ | refine sl_eq ?_ | refine b_eq ?_ | (refine i_eq ?_; omega))); done))
      · skip
        refine BlkK.nrm ?_
        refine Exec.reg1 ?_
        refine Run.op (by simp only [go_sem, hs]; (try simp (disch := omega) only [IntWalk.i64_in, IntWalk.u64_in, if_neg, if_pos])<;> rfl) (by simp only [go_sem] <;> rfl) ?_
        refine Run.op (by simp only [go_sem, hs] <;> rfl) (by simp only [go_sem] <;> rfl) ?_
        refine Run.nil ?_
        refine ForK.nxt ?_ ?_ ?_
        · omega
        · exact Ghost.kp [0, 1, 7, 8] [900] (by simp only [go_sem, hs]; first | ((repeat' (first | with_reducible_and_instances rfl | refine st_eq ?_ ?_ ?_ | refine ret_eq ?_ | refine tup_eq ?_ | refine tm_eq ?_ ?_ | refine arr_eq ?_ | refine cells_eq ?_ | refine val_eq ?_ | refine ls_eq ?_ ?_ | refine own_eq ?_ ?_ | refine sl_eq ?_ | refine b_eq ?_ | (refine i_eq ?_; omega))); done) | rfl)
        · exact any_step hX hs hb16
    · skip
      have hr := find_none hX (ge_of_dec hb9)
      refine Exec.exitS ?_
      refine ForK.ext ?_
      refine BlkK.hit ?_
      refine Exec.reg ?_
      refine Run.op (by simp only [go_sem, hr, idxI] <;> rfl) (by simp only [go_sem] <;> rfl) ?_
      refine Run.nil ?_
      exact Ends.fin [900] (rs := [.tmp 4]) rfl (by simp only [go_sem, hr, idxI] <;> rfl) (by simp only [go_sem, hr, idxI] <;> first | rfl | ((repeat' (first | with_reducible_and_instances rfl | refine st_eq ?_ ?_ ?_ | refine ret_eq ?_ | refine tup_eq ?_ | refine tm_eq ?_ ?_ | refine arr_eq ?_ | refine cells_eq ?_ | refine val_eq ?_ | refine ls_eq ?_ ?_ | refine own_eq ?_ ?_ | refine sl_eq ?_ | refine b_eq ?_ | (refine i_eq ?_; omega))); done))

set_option maxRecDepth 20000 in
/-- slices.ContainsFunc[[]int,int] -/
theorem c_ContainsFunc_l {g : FuncId} {ds : List D} (p : Int → Bool) (hg : canCall Try.prog g = true) (hp : ∀ s, Contract Try.prog g (.int s :: ds.map fun x => .leaf (.d x)) (.bool (p s)) []) (l : List Int) (hl : l.length ≤ 1000) : Con Try.prog 41 [.leaf (.own 900 0 l.length l.length), .leaf (.d (.fn g ds))] [(900, .arr 3 1 (l.map encInt))] (.ret (.bool (l.any p)) [(900, .arr 3 1 (l.map encInt))]) := by
  refine con_of follows_mixed Try.func41 rfl (by simp only [List.length_cons, List.length_nil, Try.ntmps41]; omega) (by kernel_rfl) rfl ?_
  refine Exec.reg ?_
  refine Run.op (by simp only [go_sem, idxI_ge, find_any] <;> rfl) (by simp only [go_sem] <;> rfl) ?_
  refine Run.nil ?_
  refine Exec.reg ?_
  iterate 2 (refine Run.op (by simp only [go_sem, idxI_ge, find_any] <;> rfl) (by simp only [go_sem] <;> rfl) ?_)
  refine Run.lendA 900 900 (c_IndexFunc_l p hg hp l hl) (Nat.le_refl _) (by simp only [go_sem]) (by simp only [go_sem] <;> rfl) (by simp only [go_sem, idxI_ge, find_any] <;> rfl) (by simp only [go_sem, idxI_ge, find_any] <;> rfl) (by exact ⟨by first | exact WkR.pure rfl | exact WkR.of rfl rfl | exact WkR.nil _ | exact WkR.int (by first | omega | (simp; done) | (simp; omega)), by first | exact WkR.pure rfl | exact WkR.of rfl rfl | exact WkR.nil _ | exact WkR.int (by first | omega | (simp; done) | (simp; omega)), trivial⟩) (by simp only [go_sem, idxI_ge, find_any] <;> rfl) ?_
  iterate 2 (refine Run.op (by simp only [go_sem, idxI_ge, find_any] <;> rfl) (by simp only [go_sem] <;> rfl) ?_)
  refine Run.nil ?_
  exact Ends.fin [900] (rs := [.tmp 4]) rfl (by simp only [go_sem, idxI_ge, find_any] <;> rfl) (by simp only [go_sem, idxI_ge, find_any] <;> first | rfl | ((repeat' (first | with_reducible_and_instances rfl | refine st_eq ?_ ?_ ?_ | refine ret_eq ?_ | refine tup_eq ?_ | refine tm_eq ?_ ?_ | refine arr_eq ?_ | refine cells_eq ?_ | refine val_eq ?_ | refine ls_eq ?_ ?_ | refine own_eq ?_ ?_ | refine sl_eq ?_ | refine b_eq ?_ | (refine i_eq ?_; omega))); done))

set_option maxRecDepth 20000 in
/-- meterworks/drum.check -/
theorem c_check_l (r : Reg) (l : List Int) (hl : l.length ≤ 1000) : Con Try.prog 34 [regV r, .leaf (.own 900 0 l.length l.length)] [(900, .arr 3 1 (l.map encInt))] (.ret (.int (errD r l)) [(900, .arr 3 1 (l.map encInt))]) := by
  refine con_of follows_mixed Try.func34 rfl (by simp only [List.length_cons, List.length_nil, Try.ntmps34]; omega) (by kernel_rfl) rfl ?_
  refine Exec.reg ?_
  iterate 2 (refine Run.op (by simp only [go_sem, errD, if_false, if_true] <;> rfl) (by simp only [go_sem] <;> rfl) ?_)
  refine Run.nil ?_
  refine Exec.blk ?_
  refine Exec.reg ?_
  refine Run.op (by simp only [go_sem, errD, if_false, if_true] <;> rfl) (by simp only [go_sem] <;> rfl) ?_
  refine Run.cal (c_drum_isRegister r) (by simp only [go_sem]) (by simp only [go_sem, errD, if_false, if_true] <;> rfl) (by exact ⟨by first | exact WkR.pure rfl | exact WkR.nil _ | exact WkR.int (by first | omega | (simp; done) | (simp; omega)), trivial⟩) (fr0) (by simp only [go_sem, errD, if_false, if_true] <;> rfl) ?_
  iterate 2 (refine Run.op (by simp only [go_sem, errD, if_false, if_true] <;> rfl) (by simp only [go_sem] <;> rfl) ?_)
  refine Run.nil ?_
  refine Exec.cnd (by simp only [go_sem, errD, if_false, if_true] <;> rfl) (fun hb5 => ?_) (fun hb5 => ?_)
  · skip
    have hreg : regB r = false := by simpa using hb5
    refine Exec.reg ?_
    refine Run.op (by simp only [go_sem, errD, if_false, if_true, hreg] <;> rfl) (by simp only [go_sem] <;> rfl) ?_
    refine Run.nil ?_
    refine BlkK.ret ?_
    exact Ends.fin [900] (rs := [.tmp 4]) rfl (by simp only [go_sem, errD, if_false, if_true, hreg] <;> rfl) (by simp only [go_sem, errD, if_false, if_true, hreg] <;> first | rfl | ((repeat' (first | with_reducible_and_instances rfl | refine st_eq ?_ ?_ ?_ | refine ret_eq ?_ | refine tup_eq ?_ | refine tm_eq ?_ ?_ | refine arr_eq ?_ | refine cells_eq ?_ | refine val_eq ?_ | refine ls_eq ?_ ?_ | refine own_eq ?_ ?_ | refine sl_eq ?_ | refine b_eq ?_ | (refine i_eq ?_; omega))); done))
  · skip
    have hreg : regB r = true := by simpa using hb5
    have hrf : (regB r = false) = False := by simp [hreg]
    refine Exec.reg ?_
    iterate 4 (refine Run.op (by simp only [go_sem, errD, if_false, if_true, hrf] <;> rfl) (by simp only [go_sem] <;> rfl) ?_)
    refine Run.nil ?_
    refine Exec.cnd (by simp only [go_sem, errD, if_false, if_true, hrf] <;> rfl) (fun hb9 => ?_) (fun hb9 => ?_)
    · skip
      have hlen : ((32 : Int) < (l.length : Int)) = True := by have := of_decide_eq_true hb9; simp; omega
      refine Exec.reg ?_
      refine Run.op (by simp only [go_sem, errD, if_false, if_true, hrf, hlen] <;> rfl) (by simp only [go_sem] <;> rfl) ?_
      refine Run.nil ?_
      refine BlkK.ret ?_
      exact Ends.fin [900] (rs := [.tmp 4]) rfl (by simp only [go_sem, errD, if_false, if_true, hrf, hlen] <;> rfl) (by simp only [go_sem, errD, if_false, if_true, hrf, hlen] <;> first | rfl | ((repeat' (first | with_reducible_and_instances rfl | refine st_eq ?_ ?_ ?_ | refine ret_eq ?_ | refine tup_eq ?_ | refine tm_eq ?_ ?_ | refine arr_eq ?_ | refine cells_eq ?_ | refine val_eq ?_ | refine ls_eq ?_ ?_ | refine own_eq ?_ ?_ | refine sl_eq ?_ | refine b_eq ?_ | (refine i_eq ?_; omega))); done))
    · skip
      have hlen : ((32 : Int) < (l.length : Int)) = False := by have := of_decide_eq_false hb9; simp; omega
      have hal := any_all (p := fun s => inD s (-1099511627776) 1099511627776) l
      refine Exec.reg ?_
      refine Run.op (by simp only [go_sem, errD, if_false, if_true, hrf, hlen, hal] <;> rfl) (by simp only [go_sem] <;> rfl) ?_
      refine Run.lendA 900 900 (c_ContainsFunc_l (fun s => !inD s (-1099511627776) 1099511627776) (ds := []) (by simp only [go_sem]) c_check_1 l hl) (Nat.le_refl _) (by simp only [go_sem]) (by simp only [go_sem] <;> rfl) (by simp only [go_sem, errD, if_false, if_true, hrf, hlen, hal] <;> rfl) (by simp only [go_sem, errD, if_false, if_true, hrf, hlen, hal] <;> rfl) (by exact ⟨by first | exact WkR.pure rfl | exact WkR.of rfl rfl | exact WkR.nil _ | exact WkR.int (by first | omega | (simp; done) | (simp; omega)), by first | exact WkR.pure rfl | exact WkR.of rfl rfl | exact WkR.nil _ | exact WkR.int (by first | omega | (simp; done) | (simp; omega)), trivial⟩) (by simp only [go_sem, errD, if_false, if_true, hrf, hlen, hal] <;> rfl) ?_
      refine Run.op (by simp only [go_sem, errD, if_false, if_true, hrf, hlen, hal] <;> rfl) (by simp only [go_sem] <;> rfl) ?_
      refine Run.nil ?_
      refine Exec.cnd (by simp only [go_sem, errD, if_false, if_true, hrf, hlen, hal] <;> rfl) (fun hb13 => ?_) (fun hb13 => ?_)
      · skip
        have ha : l.all (fun n => inD n (-1099511627776) 1099511627776) = false := by simpa using hb13
        refine Exec.reg ?_
        refine Run.op (by simp only [go_sem, errD, if_false, if_true, hrf, hlen, hal, ha] <;> rfl) (by simp only [go_sem] <;> rfl) ?_
        refine Run.nil ?_
        refine BlkK.ret ?_
        exact Ends.fin [900] (rs := [.tmp 4]) rfl (by simp only [go_sem, errD, if_false, if_true, hrf, hlen, hal, ha] <;> rfl) (by simp only [go_sem, errD, if_false, if_true, hrf, hlen, hal, ha] <;> first | rfl | ((repeat' (first | with_reducible_and_instances rfl | refine st_eq ?_ ?_ ?_ | refine ret_eq ?_ | refine tup_eq ?_ | refine tm_eq ?_ ?_ | refine arr_eq ?_ | refine cells_eq ?_ | refine val_eq ?_ | refine ls_eq ?_ ?_ | refine own_eq ?_ ?_ | refine sl_eq ?_ | refine b_eq ?_ | (refine i_eq ?_; omega))); done))
      · skip
        have ha : (l.all (fun n => inD n (-1099511627776) 1099511627776) = false) = False := by simpa using hb13
        refine BlkK.nrm ?_
        refine Exec.reg ?_
        refine Run.op (by simp only [go_sem, errD, if_false, if_true, hrf, hlen, hal, ha] <;> rfl) (by simp only [go_sem] <;> rfl) ?_
        refine Run.nil ?_
        exact Ends.fin [900] (rs := [.tmp 4]) rfl (by simp only [go_sem, errD, if_false, if_true, hrf, hlen, hal, ha] <;> rfl) (by simp only [go_sem, errD, if_false, if_true, hrf, hlen, hal, ha] <;> first | rfl | ((repeat' (first | with_reducible_and_instances rfl | refine st_eq ?_ ?_ ?_ | refine ret_eq ?_ | refine tup_eq ?_ | refine tm_eq ?_ ?_ | refine arr_eq ?_ | refine cells_eq ?_ | refine val_eq ?_ | refine ls_eq ?_ ?_ | refine own_eq ?_ ?_ | refine sl_eq ?_ | refine b_eq ?_ | (refine i_eq ?_; omega))); done))

set_option maxRecDepth 20000 in
set_option maxHeartbeats 2000000 in
/-- meterworks/drum.Run -/
theorem c_Run_l (r : Reg) (l : List Int) (hl : l.length ≤ 1000) : Con Try.prog 12 [regV r, .leaf (.own 900 0 l.length l.length)] [(900, .arr 3 1 (l.map encInt))] (.ret (runV (runR r l)) [(900, .arr 3 1 (l.map encInt))]) := by
  refine con_of follows_mixed Try.func12 rfl (by simp only [List.length_cons, List.length_nil, Try.ntmps12]; omega) (by kernel_rfl) rfl ?_
  refine Exec.reg ?_
  iterate 4 (refine Run.op (by simp only [go_sem] <;> rfl) (by simp only [go_sem] <;> rfl) ?_)
  refine Run.nil ?_
  refine Exec.assocS ?_
  refine Exec.reg ?_
  iterate 2 (refine Run.op (by simp only [go_sem] <;> rfl) (by simp only [go_sem] <;> rfl) ?_)
  refine Run.lendA 900 900 (c_check_l r l hl) (Nat.le_refl _) (by simp only [go_sem]) (by simp only [go_sem] <;> rfl) (by simp only [go_sem] <;> rfl) (by simp only [go_sem] <;> rfl) (by exact ⟨by first | exact WkR.pure rfl | exact WkR.of rfl rfl | exact WkR.nil _ | exact WkR.int (by first | omega | (simp; done) | (simp; omega)), by first | exact WkR.pure rfl | exact WkR.of rfl rfl | exact WkR.nil _ | exact WkR.int (by first | omega | (simp; done) | (simp; omega)), trivial⟩) (by simp only [go_sem] <;> rfl) ?_
  refine Run.op (by simp only [go_sem] <;> rfl) (by simp only [go_sem] <;> rfl) ?_
  refine Run.nil ?_
  refine Exec.assocS ?_
  refine Exec.reg ?_
  iterate 2 (refine Run.op (by simp only [go_sem] <;> rfl) (by simp only [go_sem] <;> rfl) ?_)
  refine Run.nil ?_
  refine Exec.cndS (by simp only [go_sem] <;> rfl) (fun hb13 => ?_) (fun hb13 => ?_)
  · skip
    have he : ¬ errD r l = 0 := by simpa using hb13
    have hrun : runR r l = (0, [], errD r l) := if_neg he
    refine Exec.assocS ?_
    refine Exec.reg ?_
    iterate 4 (refine Run.op (by simp only [go_sem, hrun] <;> rfl) (by simp only [go_sem] <;> rfl) ?_)
    refine Run.nild 5 1 (by simp only [go_sem] <;> rfl) (by simp only [go_sem] <;> rfl) ?_
    refine Run.nil ?_
    refine Exec.retS ?_
    exact Ends.fin [900] (rs := [.tmp 4, .tmp 5, .tmp 6]) rfl (by simp only [go_sem, hrun] <;> rfl) (by simp only [go_sem, hrun] <;> first | rfl | ((repeat' (first | with_reducible_and_instances rfl | refine st_eq ?_ ?_ ?_ | refine ret_eq ?_ | refine tup_eq ?_ | refine tm_eq ?_ ?_ | refine arr_eq ?_ | refine cells_eq ?_ | refine val_eq ?_ | refine ls_eq ?_ ?_ | refine own_eq ?_ ?_ | refine sl_eq ?_ | refine b_eq ?_ | (refine i_eq ?_; omega))); done))
  · skip
    have he : errD r l = 0 := by simpa using hb13
    obtain ⟨hreg, hl32, hlb⟩ := err_zero he
    have hq := reg_iff.1 hreg
    have htb := turn_bnd hq.1.2
    have htot := total_bnd hreg l
    have hrun := run_zero he
    refine Exec.skipS ?_
    refine Exec.reg ?_
    iterate 3 (refine Run.op (by simp only [go_sem, hrun, he] <;> rfl) (by simp only [go_sem] <;> rfl) ?_)
    refine Run.nil ?_
    refine Exec.assocS ?_
    refine Exec.reg ?_
    iterate 3 (refine Run.op (by simp only [go_sem, hrun, he] <;> rfl) (by simp only [go_sem] <;> rfl) ?_)
    refine Run.nil ?_
    refine Exec.blk ?_
    refine Exec.forA [2, 4, 17, 18, 19] [2, 900] (l.length) (fun k => [.slot 19 (.int k), .slot 4 (.int (r.start + sumD (l.take k)))]) (fun _ => True) (fun k => by simp only [go_sem] <;> rfl) (by simp only [go_sem, hrun, he, List.take_zero, sumD, Int.add_zero, Int.natCast_zero] <;> rfl) ?_ (fun k hk hX => ?_)
    · trivial
    · skip
      refine Exec.reg ?_
      refine Run.op (by simp only [go_sem, hrun, he] <;> rfl) (by simp only [go_sem] <;> rfl) ?_
      refine Run.nil ?_
      refine Exec.cndS (by simp only [go_sem, hrun, he] <;> rfl) (fun hb20 => ?_) (fun hb20 => ?_)
      · skip
        have hlt := lt_of_dec hb20
        obtain ⟨s, hs⟩ := elem_of hb20
        have hs1 : sumD (l.take (k + 1)) = sumD (l.take k) + s := by rw [take_succ_snoc hs, sum_snoc]
        have hb1 := sum_bnd (l := l.take k) fun n hn => hlb n (List.mem_of_mem_take hn)
        have hb2 := hlb s (List.mem_of_getElem? hs)
        have hb3 : (l.take k).length ≤ 32 := by rw [List.length_take]; omega
        refine Exec.skipS ?_
        refine Exec.blk ?_
        refine Exec.reg ?_
        refine Run.op (by simp only [go_sem, hrun, he, hs, hs1]; (try simp (disch := omega) only [if_pos]); (try simp only [go_sem, hrun, he, hs, hs1])<;> rfl) (by simp only [go_sem] <;> rfl) ?_
        iterate 2 (refine Run.op (by simp only [go_sem, hrun, he, hs, hs1] <;> rfl) (by simp only [go_sem] <;> rfl) ?_)
        refine Run.nil ?_
        refine Exec.reg1 ?_
        iterate 2 (refine Run.op (by simp only [go_sem, hrun, he, hs, hs1] <;> rfl) (by simp only [go_sem] <;> rfl) ?_)
        refine Run.op (by simp only [go_sem, hrun, he, hs, hs1]; (try simp (disch := omega) only [IntWalk.i64_in, IntWalk.u64_in, if_neg, if_pos])<;> rfl) (by simp only [go_sem] <;> rfl) ?_
        refine Run.op (by simp only [go_sem, hrun, he, hs, hs1] <;> rfl) (by simp only [go_sem] <;> rfl) ?_
        refine Run.nil ?_
        refine BlkK.nrm ?_
        refine Exec.reg1 ?_
        refine Run.op (by simp only [go_sem, hrun, he, hs, hs1]; (try simp (disch := omega) only [IntWalk.i64_in, IntWalk.u64_in, if_neg, if_pos])<;> rfl) (by simp only [go_sem] <;> rfl) ?_
        refine Run.op (by simp only [go_sem, hrun, he, hs, hs1] <;> rfl) (by simp only [go_sem] <;> rfl) ?_
        refine Run.nil ?_
        refine ForK.nxt ?_ ?_ ?_
        · omega
        · exact Ghost.kp [2, 4, 17, 18, 19] [2, 900] (by simp only [go_sem, hrun, he, hs, hs1]; first | ((repeat' (first | with_reducible_and_instances rfl | refine st_eq ?_ ?_ ?_ | refine ret_eq ?_ | refine tup_eq ?_ | refine tm_eq ?_ ?_ | refine arr_eq ?_ | refine cells_eq ?_ | refine val_eq ?_ | refine ls_eq ?_ ?_ | refine own_eq ?_ ?_ | refine sl_eq ?_ | refine b_eq ?_ | (refine i_eq ?_; omega))); (all_goals (first | omega | (simp; omega)))) | rfl)
        · trivial
      · skip
        have hke : k = l.length := by have := ge_of_dec hb20; omega
        subst hke
        have hb1 := sum_bnd hlb
        have e : (r.start + sumD l) % turnD r.drums = totalD r l := rfl
        refine Exec.exitS ?_
        refine ForK.ext ?_
        refine BlkK.hit ?_
        refine Exec.reg ?_
        iterate 3 (refine Run.op (by simp only [go_sem, hrun, he, List.take_length, e] <;> rfl) (by simp only [go_sem] <;> rfl) ?_)
        refine Run.cal (c_drum_turnOf r.drums (by omega)) (by simp only [go_sem]) (by simp only [go_sem, hrun, he, List.take_length, e] <;> rfl) (by exact ⟨by first | exact WkR.pure rfl | exact WkR.nil _ | exact WkR.int (by first | omega | (simp; done) | (simp; omega)), trivial⟩) (fr0) (by simp only [go_sem, hrun, he, List.take_length, e] <;> rfl) ?_
        refine Run.cal (c_drum_modulo (r.start + sumD l) (turnD r.drums) (by omega) (by omega)) (by simp only [go_sem]) (by simp only [go_sem, hrun, he, List.take_length, e] <;> rfl) (by exact ⟨by first | exact WkR.pure rfl | exact WkR.nil _ | exact WkR.int (by first | omega | (simp; done) | (simp; omega)), by first | exact WkR.pure rfl | exact WkR.nil _ | exact WkR.int (by first | omega | (simp; done) | (simp; omega)), trivial⟩) (fr0) (by simp only [go_sem, hrun, he, List.take_length, e] <;> rfl) ?_
        refine Run.op (by simp only [go_sem, hrun, he, List.take_length, e] <;> rfl) (by simp only [go_sem] <;> rfl) ?_
        refine Run.nil ?_
        refine Exec.reg ?_
        iterate 4 (refine Run.op (by simp only [go_sem, hrun, he, List.take_length, e] <;> rfl) (by simp only [go_sem] <;> rfl) ?_)
        refine Run.cal (c_drum_list r.drums (by omega) (totalD r l) (by omega) (ds := []) figD (by simp only [go_sem]) (fun p hp => c_drum_place_figure p hp)) (by simp only [go_sem]) (by simp only [go_sem, hrun, he, List.take_length, e] <;> rfl) (by exact ⟨by first | exact WkR.pure rfl | exact WkR.nil _ | exact WkR.int (by first | omega | (simp; done) | (simp; omega)), by first | exact WkR.pure rfl | exact WkR.nil _ | exact WkR.int (by first | omega | (simp; done) | (simp; omega)), by first | exact WkR.pure rfl | exact WkR.nil _ | exact WkR.int (by first | omega | (simp; done) | (simp; omega)), trivial⟩) (fr0) (by simp only [go_sem, hrun, he, List.take_length, e] <;> rfl) ?_
        iterate 3 (refine Run.op (by simp only [go_sem, hrun, he, List.take_length, e] <;> rfl) (by simp only [go_sem] <;> rfl) ?_)
        refine Run.nil ?_
        exact Ends.fin [900] (rs := [.tmp 4, .tmp 5, .tmp 6]) rfl (by simp only [go_sem, hrun, he, List.take_length, e] <;> rfl) (by simp only [go_sem, hrun, he, List.take_length, e] <;> first | rfl | ((repeat' (first | with_reducible_and_instances rfl | refine st_eq ?_ ?_ ?_ | refine ret_eq ?_ | refine tup_eq ?_ | refine tm_eq ?_ ?_ | refine arr_eq ?_ | refine cells_eq ?_ | refine val_eq ?_ | refine ls_eq ?_ ?_ | refine own_eq ?_ ?_ | refine sl_eq ?_ | refine b_eq ?_ | (refine i_eq ?_; omega))); done))

set_option maxRecDepth 20000 in
set_option maxHeartbeats 8000000 in
/-- meterworks/drum.Pulses -/
theorem c_Pulses_l (r : Reg) (l : List Int) (at_ : Int) (hl : l.length ≤ 1000) : Con Try.prog 14 [regV r, .leaf (.own 900 0 l.length l.length), .int at_] [(900, .arr 3 1 (l.map encInt))] (.ret (tupI [(pulsesR r l at_).1, (pulsesR r l at_).2.1, (pulsesR r l at_).2.2]) [(900, .arr 3 1 (l.map encInt))]) := by
  refine con_of follows_mixed Try.func14 rfl (by simp only [List.length_cons, List.length_nil, Try.ntmps14]; omega) (by kernel_rfl) rfl ?_
  refine Exec.reg ?_
  iterate 4 (refine Run.op (by simp only [go_sem] <;> rfl) (by simp only [go_sem] <;> rfl) ?_)
  refine Run.nil ?_
  refine Exec.reg ?_
  iterate 2 (refine Run.op (by simp only [go_sem] <;> rfl) (by simp only [go_sem] <;> rfl) ?_)
  refine Run.lendA 900 900 (c_check_l r l hl) (Nat.le_refl _) (by simp only [go_sem]) (by simp only [go_sem] <;> rfl) (by simp only [go_sem] <;> rfl) (by simp only [go_sem] <;> rfl) (by exact ⟨by first | exact WkR.pure rfl | exact WkR.of rfl rfl | exact WkR.nil _ | exact WkR.int (by first | omega | (simp; done) | (simp; omega)), by first | exact WkR.pure rfl | exact WkR.of rfl rfl | exact WkR.nil _ | exact WkR.int (by first | omega | (simp; done) | (simp; omega)), trivial⟩) (by simp only [go_sem] <;> rfl) ?_
  refine Run.op (by simp only [go_sem] <;> rfl) (by simp only [go_sem] <;> rfl) ?_
  refine Run.nil ?_
  refine Exec.blk ?_
  refine Exec.reg ?_
  iterate 3 (refine Run.op (by simp only [go_sem] <;> rfl) (by simp only [go_sem] <;> rfl) ?_)
  refine Run.nil ?_
  refine Exec.cnd (by simp only [go_sem] <;> rfl) (fun hb21 => ?_) (fun hb21 => ?_)
  · skip
    have he : ¬ errD r l = 0 := by simpa using hb21
    have hr : pulsesR r l at_ = (0, 0, errD r l) := if_neg he
    refine Exec.reg ?_
    iterate 4 (refine Run.op (by simp only [go_sem, hr] <;> rfl) (by simp only [go_sem] <;> rfl) ?_)
    refine Run.nil ?_
    refine BlkK.ret ?_
    exact Ends.fin [900] (rs := [.tmp 6, .tmp 7, .tmp 8]) rfl (by simp only [go_sem, hr] <;> rfl) (by simp only [go_sem, hr] <;> first | rfl | ((repeat' (first | with_reducible_and_instances rfl | refine st_eq ?_ ?_ ?_ | refine ret_eq ?_ | refine tup_eq ?_ | refine tm_eq ?_ ?_ | refine arr_eq ?_ | refine cells_eq ?_ | refine val_eq ?_ | refine ls_eq ?_ ?_ | refine own_eq ?_ ?_ | refine sl_eq ?_ | refine b_eq ?_ | (refine i_eq ?_; omega))); done))
  · skip
    have he : errD r l = 0 := by simpa using hb21
    obtain ⟨hreg, hl32, hlb⟩ := err_zero he
    have hq := reg_iff.1 hreg
    have htb := turn_bnd hq.1.2
    refine Exec.reg ?_
    refine Run.op (by simp only [go_sem] <;> rfl) (by simp only [go_sem] <;> rfl) ?_
    refine Run.cal (c_drum_within _ _ _) (by simp only [go_sem]) (by simp only [go_sem] <;> rfl) (by exact ⟨by first | exact WkR.pure rfl | exact WkR.nil _ | exact WkR.int (by first | omega | (simp; done) | (simp; omega)), by first | exact WkR.pure rfl | exact WkR.nil _ | exact WkR.int (by first | omega | (simp; done) | (simp; omega)), by first | exact WkR.pure rfl | exact WkR.nil _ | exact WkR.int (by first | omega | (simp; done) | (simp; omega)), trivial⟩) (fr0) (by simp only [go_sem] <;> rfl) ?_
    iterate 2 (refine Run.op (by simp only [go_sem] <;> rfl) (by simp only [go_sem] <;> rfl) ?_)
    refine Run.nil ?_
    refine Exec.cnd (by simp only [go_sem] <;> rfl) (fun hb25 => ?_) (fun hb25 => ?_)
    · skip
      have hin : inD at_ 0 9999 = false := by simpa using hb25
      have hr : pulsesR r l at_ = (0, 0, 2) := by unfold pulsesR; rw [if_pos he, if_neg (by simp [hin])]
      refine Exec.reg ?_
      iterate 3 (refine Run.op (by simp only [go_sem, hr] <;> rfl) (by simp only [go_sem] <;> rfl) ?_)
      refine Run.nil ?_
      refine BlkK.ret ?_
      exact Ends.fin [900] (rs := [.tmp 6, .tmp 7, .tmp 8]) rfl (by simp only [go_sem, hr] <;> rfl) (by simp only [go_sem, hr] <;> first | rfl | ((repeat' (first | with_reducible_and_instances rfl | refine st_eq ?_ ?_ ?_ | refine ret_eq ?_ | refine tup_eq ?_ | refine tm_eq ?_ ?_ | refine arr_eq ?_ | refine cells_eq ?_ | refine val_eq ?_ | refine ls_eq ?_ ?_ | refine own_eq ?_ ?_ | refine sl_eq ?_ | refine b_eq ?_ | (refine i_eq ?_; omega))); done))
    · skip
      have hin : inD at_ 0 9999 = true := by simpa using hb25
      have hat := inD_iff.1 hin
      have hr : pulsesR r l at_ = ((pS at_ r.start l).ct, (pS at_ r.start l).all, 0) := by unfold pulsesR; rw [if_pos he, if_pos hin]
      refine BlkK.nrm ?_
      refine Exec.reg ?_
      iterate 3 (refine Run.op (by simp only [go_sem, hr] <;> rfl) (by simp only [go_sem] <;> rfl) ?_)
      refine Run.nil ?_
      refine Exec.reg ?_
      refine Run.op (by simp only [go_sem, hr] <;> rfl) (by simp only [go_sem] <;> rfl) ?_
      refine Run.op (by simp only [go_sem, hr]; (try simp (disch := omega) only [IntWalk.i64_in, IntWalk.u64_in, if_neg, if_pos])<;> rfl) (by simp only [go_sem] <;> rfl) ?_
      refine Run.op (by simp only [go_sem, hr] <;> rfl) (by simp only [go_sem] <;> rfl) ?_
      refine Run.nil ?_
      refine Exec.assocS ?_
      refine Exec.reg ?_
      iterate 3 (refine Run.op (by simp only [go_sem, hr] <;> rfl) (by simp only [go_sem] <;> rfl) ?_)
      refine Run.nil ?_
      refine Exec.blk ?_
      refine Exec.forA [2, 6, 7, 9, 10, 33, 34, 35] [3, 900] (l.length) (fun k => [.slot 35 (.int k), .slot 9 (.int (pS at_ r.start (l.take k)).now), .slot 10 (.int (lastI' at_ (pS at_ r.start (l.take k)))), .slot 6 (.int (pS at_ r.start (l.take k)).ct), .slot 7 (.int (pS at_ r.start (l.take k)).all)]) (fun _ => True) (fun k => by simp only [go_sem] <;> rfl) (by simp only [go_sem, List.take_zero, pS_nil, lastI', Int.natCast_zero] <;> rfl) ?_ (fun k hk hX => ?_)
      · trivial
      · skip
        refine Exec.reg ?_
        refine Run.op (by simp only [go_sem, hr] <;> rfl) (by simp only [go_sem] <;> rfl) ?_
        refine Run.nil ?_
        refine Exec.cndS (by simp only [go_sem, hr] <;> rfl) (fun hb36 => ?_) (fun hb36 => ?_)
        · skip
          have hlt := lt_of_dec hb36
          obtain ⟨s, hs⟩ := elem_of hb36
          have hsb := hlb s (List.mem_of_getElem? hs)
          have hst := pS_snocK (at_ := at_) (start := r.start) hs
          have hpb := pb_all (start := r.start) (at_ := at_) hlb k (by omega)
          obtain ⟨p, hp⟩ : ∃ p, (pS at_ r.start (l.take k)) = p := ⟨_, rfl⟩
          rw [hp] at hst hpb
          obtain ⟨q1, q2, q3, q4, q5⟩ := hpb
          simp only [hp]
          obtain ⟨lo, hlo⟩ : ∃ x, lowI p.now s = x := ⟨_, rfl⟩
          obtain ⟨hi, hhi⟩ : ∃ x, highI p.now s = x := ⟨_, rfl⟩
          have hlob : -100000000000000 ≤ lo ∧ lo ≤ 100000000000000 := by rw [← hlo]; unfold lowI; split <;> omega
          have hhib : -100000000000000 ≤ hi ∧ hi ≤ 100000000000000 := by rw [← hhi]; unfold highI; split <;> omega
          have eL : lo + (at_ - lo) % 10000 = leastI at_ lo := rfl
          have eH : hi - (hi - at_) % 10000 = mostI at_ hi := rfl
          have bL := least_ge at_ lo
          have bH := most_le at_ hi
          have bL2 : leastI at_ lo ≤ lo + 10000 := by unfold leastI; omega
          have bH2 : hi - 10000 ≤ mostI at_ hi := by unfold mostI; omega
          refine Exec.skipS ?_
          refine Exec.blk ?_
          refine Exec.reg ?_
          refine Run.op (by simp only [go_sem, hr, hs, hst, eL, eH]; (try simp (disch := omega) only [if_pos]); (try simp only [go_sem, hr, hs, hst, eL, eH])<;> rfl) (by simp only [go_sem] <;> rfl) ?_
          iterate 2 (refine Run.op (by simp only [go_sem, hr, hs, hst, eL, eH] <;> rfl) (by simp only [go_sem] <;> rfl) ?_)
          refine Run.nil ?_
          refine Exec.reg ?_
          refine Run.op (by simp only [go_sem, hr, hs, hst, eL, eH] <;> rfl) (by simp only [go_sem] <;> rfl) ?_
          refine Run.op (by simp only [go_sem, hr, hs, hst, eL, eH]; (try simp (disch := omega) only [IntWalk.i64_in, IntWalk.u64_in, if_neg, if_pos])<;> rfl) (by simp only [go_sem] <;> rfl) ?_
          iterate 2 (refine Run.op (by simp only [go_sem, hr, hs, hst, eL, eH] <;> rfl) (by simp only [go_sem] <;> rfl) ?_)
          refine Run.op (by simp only [go_sem, hr, hs, hst, eL, eH]; (try simp (disch := omega) only [IntWalk.i64_in, IntWalk.u64_in, if_neg, if_pos])<;> rfl) (by simp only [go_sem] <;> rfl) ?_
          iterate 2 (refine Run.op (by simp only [go_sem, hr, hs, hst, eL, eH] <;> rfl) (by simp only [go_sem] <;> rfl) ?_)
          refine Run.nil ?_
          refine Exec.assocS ?_
          refine Exec.reg ?_
          iterate 2 (refine Run.op (by simp only [go_sem, hr, hs, hst, eL, eH] <;> rfl) (by simp only [go_sem] <;> rfl) ?_)
          refine Run.nil ?_
          refine Exec.joinA [1, 2, 3, 6, 7, 9, 10, 12, 13, 14, 33, 34, 35] [3, 900] (fun (u1 : Unit) => [.slot 13 (.int lo), .slot 14 (.int hi)]) (fun (u1 : Unit) => True) (fun u1 => by simp only [go_sem] <;> rfl) ?_ (fun u1 hj => ?_)
          · skip
            refine Exec.cnd (by simp only [go_sem, hr, hs, hst, eL, eH] <;> rfl) (fun hb45 => ?_) (fun hb45 => ?_)
            · skip
              have hn : s < 0 := of_decide_eq_true hb45
              have e1 : p.now + s = lo := by rw [← hlo]; exact (if_pos hn).symm
              have e2 : p.now - 1 = hi := by rw [← hhi]; exact (if_pos hn).symm
              refine Exec.reg1 ?_
              iterate 2 (refine Run.op (by simp only [go_sem, hr, hs, hst, eL, eH, e1, e2] <;> rfl) (by simp only [go_sem] <;> rfl) ?_)
              refine Run.op (by simp only [go_sem, hr, hs, hst, eL, eH, e1, e2]; (try simp (disch := omega) only [IntWalk.i64_in, IntWalk.u64_in, if_neg, if_pos])<;> rfl) (by simp only [go_sem] <;> rfl) ?_
              refine Run.op (by simp only [go_sem, hr, hs, hst, eL, eH, e1, e2] <;> rfl) (by simp only [go_sem] <;> rfl) ?_
              refine Run.op (by simp only [go_sem, hr, hs, hst, eL, eH, e1, e2]; (try simp (disch := omega) only [IntWalk.i64_in, IntWalk.u64_in, if_neg, if_pos])<;> rfl) (by simp only [go_sem] <;> rfl) ?_
              iterate 2 (refine Run.op (by simp only [go_sem, hr, hs, hst, eL, eH, e1, e2] <;> rfl) (by simp only [go_sem] <;> rfl) ?_)
              refine Run.nil ?_
              refine JoinK.nrm (()) ?_ ?_
              · trivial
              · exact Ghost.kp [1, 2, 3, 6, 7, 9, 10, 12, 13, 14, 33, 34, 35] [3, 900] (by simp only [go_sem, hr, hs, hst, eL, eH, e1, e2]; first | ((repeat' (first | with_reducible_and_instances rfl | refine st_eq ?_ ?_ ?_ | refine ret_eq ?_ | refine tup_eq ?_ | refine tm_eq ?_ ?_ | refine arr_eq ?_ | refine cells_eq ?_ | refine val_eq ?_ | refine ls_eq ?_ ?_ | refine own_eq ?_ ?_ | refine sl_eq ?_ | refine b_eq ?_ | (refine i_eq ?_; omega))); done) | rfl)
            · skip
              have hn : ¬ s < 0 := of_decide_eq_false hb45
              have e1 : p.now + 1 = lo := by rw [← hlo]; exact (if_neg hn).symm
              have e2 : p.now + s = hi := by rw [← hhi]; exact (if_neg hn).symm
              refine JoinK.nrm (()) ?_ ?_
              · trivial
              · exact Ghost.kp [1, 2, 3, 6, 7, 9, 10, 12, 13, 14, 33, 34, 35] [3, 900] (by simp only [go_sem, hr, hs, hst, eL, eH, e1, e2]; first | ((repeat' (first | with_reducible_and_instances rfl | refine st_eq ?_ ?_ ?_ | refine ret_eq ?_ | refine tup_eq ?_ | refine tm_eq ?_ ?_ | refine arr_eq ?_ | refine cells_eq ?_ | refine val_eq ?_ | refine ls_eq ?_ ?_ | refine own_eq ?_ ?_ | refine sl_eq ?_ | refine b_eq ?_ | (refine i_eq ?_; omega))); done) | rfl)
          · skip
            refine Exec.reg ?_
            iterate 2 (refine Run.op (by simp only [go_sem, hr, hs, hst, eL, eH] <;> rfl) (by simp only [go_sem] <;> rfl) ?_)
            refine Run.op (by simp only [go_sem, hr, hs, hst, eL, eH]; (try simp (disch := omega) only [IntWalk.i64_in, IntWalk.u64_in, if_neg, if_pos])<;> rfl) (by simp only [go_sem] <;> rfl) ?_
            refine Run.op (by simp only [go_sem, hr, hs, hst, eL, eH] <;> rfl) (by simp only [go_sem] <;> rfl) ?_
            refine Run.nil ?_
            refine Exec.reg ?_
            iterate 3 (refine Run.op (by simp only [go_sem, hr, hs, hst, eL, eH] <;> rfl) (by simp only [go_sem] <;> rfl) ?_)
            refine Run.op (by simp only [go_sem, hr, hs, hst, eL, eH]; (try simp (disch := omega) only [IntWalk.i64_in, IntWalk.u64_in, if_neg, if_pos])<;> rfl) (by simp only [go_sem] <;> rfl) ?_
            refine Run.cal (c_drum_modulo (at_ - lo) 10000 (by omega) (by omega)) (by simp only [go_sem]) (by simp only [go_sem, hr, hs, hst, eL, eH] <;> rfl) (by exact ⟨by first | exact WkR.pure rfl | exact WkR.nil _ | exact WkR.int (by first | omega | (simp; done) | (simp; omega)), by first | exact WkR.pure rfl | exact WkR.nil _ | exact WkR.int (by first | omega | (simp; done) | (simp; omega)), trivial⟩) (fr0) (by simp only [go_sem, hr, hs, hst, eL, eH] <;> rfl) ?_
            refine Run.op (by simp only [go_sem, hr, hs, hst, eL, eH]; (try simp (disch := omega) only [IntWalk.i64_in, IntWalk.u64_in, if_neg, if_pos])<;> rfl) (by simp only [go_sem] <;> rfl) ?_
            iterate 3 (refine Run.op (by simp only [go_sem, hr, hs, hst, eL, eH] <;> rfl) (by simp only [go_sem] <;> rfl) ?_)
            refine Run.op (by simp only [go_sem, hr, hs, hst, eL, eH]; (try simp (disch := omega) only [IntWalk.i64_in, IntWalk.u64_in, if_neg, if_pos])<;> rfl) (by simp only [go_sem] <;> rfl) ?_
            refine Run.cal (c_drum_modulo (hi - at_) 10000 (by omega) (by omega)) (by simp only [go_sem]) (by simp only [go_sem, hr, hs, hst, eL, eH] <;> rfl) (by exact ⟨by first | exact WkR.pure rfl | exact WkR.nil _ | exact WkR.int (by first | omega | (simp; done) | (simp; omega)), by first | exact WkR.pure rfl | exact WkR.nil _ | exact WkR.int (by first | omega | (simp; done) | (simp; omega)), trivial⟩) (fr0) (by simp only [go_sem, hr, hs, hst, eL, eH] <;> rfl) ?_
            refine Run.op (by simp only [go_sem, hr, hs, hst, eL, eH]; (try simp (disch := omega) only [IntWalk.i64_in, IntWalk.u64_in, if_neg, if_pos])<;> rfl) (by simp only [go_sem] <;> rfl) ?_
            iterate 2 (refine Run.op (by simp only [go_sem, hr, hs, hst, eL, eH] <;> rfl) (by simp only [go_sem] <;> rfl) ?_)
            refine Run.nil ?_
            refine Exec.assocS ?_
            refine Exec.reg ?_
            iterate 3 (refine Run.op (by simp only [go_sem, hr, hs, hst, eL, eH] <;> rfl) (by simp only [go_sem] <;> rfl) ?_)
            refine Run.nil ?_
            refine Exec.cndS (by simp only [go_sem, hr, hs, hst, eL, eH] <;> rfl) (fun hb68 => ?_) (fun hb68 => ?_)
            · skip
              have hc : leastI at_ lo > mostI at_ hi := of_decide_eq_true hb68
              have hcs : pStep at_ p s = { p with now := p.now + s } := by unfold pStep; rw [hlo, hhi, if_pos hc]
              refine Exec.exitS ?_
              refine BlkK.hit ?_
              refine Exec.reg1 ?_
              refine Run.op (by simp only [go_sem, hr, hs, hst, eL, eH, hcs]; (try simp (disch := omega) only [IntWalk.i64_in, IntWalk.u64_in, if_neg, if_pos])<;> rfl) (by simp only [go_sem] <;> rfl) ?_
              refine Run.op (by simp only [go_sem, hr, hs, hst, eL, eH, hcs] <;> rfl) (by simp only [go_sem] <;> rfl) ?_
              refine Run.nil ?_
              refine ForK.nxt ?_ ?_ ?_
              · omega
              · exact Ghost.kp [2, 6, 7, 9, 10, 33, 34, 35] [3, 900] (by simp only [go_sem, hr, hs, hst, eL, eH, hcs]; first | ((repeat' (first | with_reducible_and_instances rfl | refine st_eq ?_ ?_ ?_ | refine ret_eq ?_ | refine tup_eq ?_ | refine tm_eq ?_ ?_ | refine arr_eq ?_ | refine cells_eq ?_ | refine val_eq ?_ | refine ls_eq ?_ ?_ | refine own_eq ?_ ?_ | refine sl_eq ?_ | refine b_eq ?_ | (refine i_eq ?_; omega))); (all_goals (first | omega | (simp [lastI']; try omega)))) | rfl)
              · trivial
            · skip
              have hc : ¬ leastI at_ lo > mostI at_ hi := of_decide_eq_false hb68
              have htb2 := times_bnd (at_ := at_) (now := p.now) (n := s) hsb (by rw [hlo, hhi]; exact hc)
              have e3 : (mostI at_ hi - leastI at_ lo).tdiv 10000 = (mostI at_ hi - leastI at_ lo) / 10000 := tdiv_e (by omega)
              have e4 : (mostI at_ hi - leastI at_ lo) / 10000 + 1 = timesI at_ p.now s := by unfold timesI; rw [hlo, hhi]
              obtain ⟨tt, htt⟩ : ∃ x, timesI at_ p.now s = x := ⟨_, rfl⟩
              rw [htt] at e4 htb2
              obtain ⟨bg, hbg⟩ : ∃ x, beginI at_ p.now s = x := ⟨_, rfl⟩
              obtain ⟨en, hen⟩ : ∃ x, endI at_ p.now s = x := ⟨_, rfl⟩
              refine Exec.skipS ?_
              refine Exec.reg ?_
              iterate 2 (refine Run.op (by simp only [go_sem, hr, hs, hst, eL, eH, e3, e4] <;> rfl) (by simp only [go_sem] <;> rfl) ?_)
              refine Run.op (by simp only [go_sem, hr, hs, hst, eL, eH, e3, e4]; (try simp (disch := omega) only [IntWalk.i64_in, IntWalk.u64_in, if_neg, if_pos])<;> rfl) (by simp only [go_sem] <;> rfl) ?_
              refine Run.op (by simp only [go_sem, hr, hs, hst, eL, eH, e3, e4]; (try simp (disch := omega) only [IntWalk.i64_in, IntWalk.u64_in, if_neg, if_pos])<;> rfl) (by simp only [go_sem] <;> rfl) ?_
              refine Run.op (by simp only [go_sem, hr, hs, hst, eL, eH, e3, e4]; (try simp (disch := omega) only [IntWalk.i64_in, IntWalk.u64_in, if_neg, if_pos])<;> rfl) (by simp only [go_sem] <;> rfl) ?_
              refine Run.op (by simp only [go_sem, hr, hs, hst, eL, eH, e3, e4] <;> rfl) (by simp only [go_sem] <;> rfl) ?_
              refine Run.nil ?_
              refine Exec.reg ?_
              iterate 2 (refine Run.op (by simp only [go_sem, hr, hs, hst, eL, eH, e3, e4] <;> rfl) (by simp only [go_sem] <;> rfl) ?_)
              refine Run.op (by simp only [go_sem, hr, hs, hst, eL, eH, e3, e4]; (try simp (disch := omega) only [IntWalk.i64_in, IntWalk.u64_in, if_neg, if_pos])<;> rfl) (by simp only [go_sem] <;> rfl) ?_
              iterate 2 (refine Run.op (by simp only [go_sem, hr, hs, hst, eL, eH, e3, e4] <;> rfl) (by simp only [go_sem] <;> rfl) ?_)
              refine Run.op (by simp only [go_sem, hr, hs, hst, eL, eH, e3, e4]; (try simp (disch := omega) only [IntWalk.i64_in, IntWalk.u64_in, if_neg, if_pos])<;> rfl) (by simp only [go_sem] <;> rfl) ?_
              iterate 2 (refine Run.op (by simp only [go_sem, hr, hs, hst, eL, eH, e3, e4] <;> rfl) (by simp only [go_sem] <;> rfl) ?_)
              refine Run.nil ?_
              refine Exec.reg ?_
              iterate 4 (refine Run.op (by simp only [go_sem, hr, hs, hst, eL, eH, e3, e4] <;> rfl) (by simp only [go_sem] <;> rfl) ?_)
              refine Run.nil ?_
              refine Exec.assocS ?_
              refine Exec.reg ?_
              iterate 2 (refine Run.op (by simp only [go_sem, hr, hs, hst, eL, eH, e3, e4] <;> rfl) (by simp only [go_sem] <;> rfl) ?_)
              refine Run.nil ?_
              refine Exec.joinA [1, 2, 3, 6, 7, 9, 13, 14, 10, 16, 17, 33, 34, 35] [3, 900] (fun (u2 : Unit) => [.slot 16 (.int bg), .slot 17 (.int en)]) (fun (u2 : Unit) => True) (fun u2 => by simp only [go_sem] <;> rfl) ?_ (fun u2 hj => ?_)
              · skip
                refine Exec.cnd (by simp only [go_sem, hr, hs, hst, eL, eH, e3, e4] <;> rfl) (fun hb83 => ?_) (fun hb83 => ?_)
                · skip
                  have hn : s < 0 := of_decide_eq_true hb83
                  have e5 : mostI at_ hi = bg := by rw [← hbg, ← hhi]; exact (if_pos hn).symm
                  have e6 : leastI at_ lo = en := by rw [← hen, ← hlo]; exact (if_pos hn).symm
                  refine Exec.reg1 ?_
                  iterate 4 (refine Run.op (by simp only [go_sem, hr, hs, hst, eL, eH, e3, e4, e5, e6] <;> rfl) (by simp only [go_sem] <;> rfl) ?_)
                  refine Run.nil ?_
                  refine JoinK.nrm (()) ?_ ?_
                  · trivial
                  · exact Ghost.kp [1, 2, 3, 6, 7, 9, 13, 14, 10, 16, 17, 33, 34, 35] [3, 900] (by simp only [go_sem, hr, hs, hst, eL, eH, e3, e4, e5, e6]; first | ((repeat' (first | with_reducible_and_instances rfl | refine st_eq ?_ ?_ ?_ | refine ret_eq ?_ | refine tup_eq ?_ | refine tm_eq ?_ ?_ | refine arr_eq ?_ | refine cells_eq ?_ | refine val_eq ?_ | refine ls_eq ?_ ?_ | refine own_eq ?_ ?_ | refine sl_eq ?_ | refine b_eq ?_ | (refine i_eq ?_; omega))); done) | rfl)
                · skip
                  have hn : ¬ s < 0 := of_decide_eq_false hb83
                  have e5 : mostI at_ hi = en := by rw [← hen, ← hhi]; exact (if_neg hn).symm
                  have e6 : leastI at_ lo = bg := by rw [← hbg, ← hlo]; exact (if_neg hn).symm
                  refine JoinK.nrm (()) ?_ ?_
                  · trivial
                  · exact Ghost.kp [1, 2, 3, 6, 7, 9, 13, 14, 10, 16, 17, 33, 34, 35] [3, 900] (by simp only [go_sem, hr, hs, hst, eL, eH, e3, e4, e5, e6]; first | ((repeat' (first | with_reducible_and_instances rfl | refine st_eq ?_ ?_ ?_ | refine ret_eq ?_ | refine tup_eq ?_ | refine tm_eq ?_ ?_ | refine arr_eq ?_ | refine cells_eq ?_ | refine val_eq ?_ | refine ls_eq ?_ ?_ | refine own_eq ?_ ?_ | refine sl_eq ?_ | refine b_eq ?_ | (refine i_eq ?_; omega))); done) | rfl)
              · skip
                refine Exec.assocS ?_
                refine Exec.reg ?_
                iterate 3 (refine Run.op (by simp only [go_sem, hr, hs, hst, eL, eH, e3, e4] <;> rfl) (by simp only [go_sem] <;> rfl) ?_)
                refine Run.nil ?_
                refine Exec.cndS (by simp only [go_sem, hr, hs, hst, eL, eH, e3, e4] <;> rfl) (fun hb88 => ?_) (fun hb88 => ?_)
                · skip
                  have hbl : bg = lastI' at_ p := by simpa using hb88
                  have hbn := begin_no at_ p.now s
                  rw [hbg] at hbn
                  have hany : p.any = true ∧ bg = p.last := by
                    unfold lastI' at hbl
                    split at hbl
                    · rename_i h; exact ⟨h, hbl⟩
                    · exact absurd hbl hbn
                  have hcs : pStep at_ p s = ⟨p.all + tt, p.ct + tt - 1, p.now + s, en, true⟩ := by unfold pStep; rw [hlo, hhi, if_neg hc, htt, hbg, hen, if_pos hany]
                  refine Exec.reg ?_
                  refine Run.op (by simp only [go_sem, hr, hs, hst, eL, eH, e3, e4, hcs] <;> rfl) (by simp only [go_sem] <;> rfl) ?_
                  refine Run.op (by simp only [go_sem, hr, hs, hst, eL, eH, e3, e4, hcs]; (try simp (disch := omega) only [IntWalk.i64_in, IntWalk.u64_in, if_neg, if_pos])<;> rfl) (by simp only [go_sem] <;> rfl) ?_
                  refine Run.op (by simp only [go_sem, hr, hs, hst, eL, eH, e3, e4, hcs] <;> rfl) (by simp only [go_sem] <;> rfl) ?_
                  refine Run.nil ?_
                  refine Exec.reg1 ?_
                  iterate 2 (refine Run.op (by simp only [go_sem, hr, hs, hst, eL, eH, e3, e4, hcs] <;> rfl) (by simp only [go_sem] <;> rfl) ?_)
                  refine Run.nil ?_
                  refine BlkK.nrm ?_
                  refine Exec.reg1 ?_
                  refine Run.op (by simp only [go_sem, hr, hs, hst, eL, eH, e3, e4, hcs]; (try simp (disch := omega) only [IntWalk.i64_in, IntWalk.u64_in, if_neg, if_pos])<;> rfl) (by simp only [go_sem] <;> rfl) ?_
                  refine Run.op (by simp only [go_sem, hr, hs, hst, eL, eH, e3, e4, hcs] <;> rfl) (by simp only [go_sem] <;> rfl) ?_
                  refine Run.nil ?_
                  refine ForK.nxt ?_ ?_ ?_
                  · omega
                  · exact Ghost.kp [2, 6, 7, 9, 10, 33, 34, 35] [3, 900] (by simp only [go_sem, hr, hs, hst, eL, eH, e3, e4, hcs]; first | ((repeat' (first | with_reducible_and_instances rfl | refine st_eq ?_ ?_ ?_ | refine ret_eq ?_ | refine tup_eq ?_ | refine tm_eq ?_ ?_ | refine arr_eq ?_ | refine cells_eq ?_ | refine val_eq ?_ | refine ls_eq ?_ ?_ | refine own_eq ?_ ?_ | refine sl_eq ?_ | refine b_eq ?_ | (refine i_eq ?_; omega))); (all_goals (first | omega | (simp [lastI']; try omega)))) | rfl)
                  · trivial
                · skip
                  have hbl : ¬ bg = lastI' at_ p := by simpa using hb88
                  have hany : ¬ (p.any = true ∧ bg = p.last) := fun h => hbl (by unfold lastI'; rw [if_pos h.1]; exact h.2)
                  have hcs : pStep at_ p s = ⟨p.all + tt, p.ct + tt - 0, p.now + s, en, true⟩ := by unfold pStep; rw [hlo, hhi, if_neg hc, htt, hbg, hen, if_neg hany]
                  refine Exec.skipS ?_
                  refine Exec.reg1 ?_
                  iterate 2 (refine Run.op (by simp only [go_sem, hr, hs, hst, eL, eH, e3, e4, hcs, Int.sub_zero] <;> rfl) (by simp only [go_sem] <;> rfl) ?_)
                  refine Run.nil ?_
                  refine BlkK.nrm ?_
                  refine Exec.reg1 ?_
                  refine Run.op (by simp only [go_sem, hr, hs, hst, eL, eH, e3, e4, hcs, Int.sub_zero]; (try simp (disch := omega) only [IntWalk.i64_in, IntWalk.u64_in, if_neg, if_pos])<;> rfl) (by simp only [go_sem] <;> rfl) ?_
                  refine Run.op (by simp only [go_sem, hr, hs, hst, eL, eH, e3, e4, hcs, Int.sub_zero] <;> rfl) (by simp only [go_sem] <;> rfl) ?_
                  refine Run.nil ?_
                  refine ForK.nxt ?_ ?_ ?_
                  · omega
                  · exact Ghost.kp [2, 6, 7, 9, 10, 33, 34, 35] [3, 900] (by simp only [go_sem, hr, hs, hst, eL, eH, e3, e4, hcs, Int.sub_zero]; first | ((repeat' (first | with_reducible_and_instances rfl | refine st_eq ?_ ?_ ?_ | refine ret_eq ?_ | refine tup_eq ?_ | refine tm_eq ?_ ?_ | refine arr_eq ?_ | refine cells_eq ?_ | refine val_eq ?_ | refine ls_eq ?_ ?_ | refine own_eq ?_ ?_ | refine sl_eq ?_ | refine b_eq ?_ | (refine i_eq ?_; omega))); (all_goals (first | omega | (simp [lastI']; try omega)))) | rfl)
                  · trivial
        · skip
          have hke : k = l.length := by have := ge_of_dec hb36; omega
          subst hke
          refine Exec.exitS ?_
          refine ForK.ext ?_
          refine BlkK.hit ?_
          refine Exec.reg ?_
          iterate 5 (refine Run.op (by simp only [go_sem, hr, List.take_length] <;> rfl) (by simp only [go_sem] <;> rfl) ?_)
          refine Run.nil ?_
          exact Ends.fin [900] (rs := [.tmp 6, .tmp 7, .tmp 8]) rfl (by simp only [go_sem, hr, List.take_length] <;> rfl) (by simp only [go_sem, hr, List.take_length] <;> first | rfl | ((repeat' (first | with_reducible_and_instances rfl | refine st_eq ?_ ?_ ?_ | refine ret_eq ?_ | refine tup_eq ?_ | refine tm_eq ?_ ?_ | refine arr_eq ?_ | refine cells_eq ?_ | refine val_eq ?_ | refine ls_eq ?_ ?_ | refine own_eq ?_ ?_ | refine sl_eq ?_ | refine b_eq ?_ | (refine i_eq ?_; omega))); done))

end Go.Mw
namespace Go.Mw
open Go.Proofs
open Go.Dr
attribute [local go_sem] decide_true beq_self_eq_true bne_self_eq_false
set_option maxRecDepth 20000 in
set_option maxHeartbeats 32000000 in
/-- meterworks/meterworkslaw02.DrumBack -/
theorem c_law_DrumBack (r : Reg) (l : List Int) (more : Int) : Contract Try.prog 7 [regV r, .leaf (.d (intsD l)), .int more] (.bool true) [] := by
  refine con_of follows_mixed Try.func7 rfl (by simp only [List.length_cons, List.length_nil, Try.ntmps7]; omega) (by kernel_rfl) rfl ?_
  refine Exec.reg ?_
  iterate 2 (refine Run.op (by simp only [go_sem] <;> rfl) (by simp only [go_sem] <;> rfl) ?_)
  refine Run.nil ?_
  refine Exec.assocS ?_
  refine Exec.reg ?_
  iterate 3 (refine Run.op (by simp only [go_sem] <;> rfl) (by simp only [go_sem] <;> rfl) ?_)
  refine Run.nil ?_
  refine Exec.cndS (by simp only [go_sem] <;> rfl) (fun hb29 => ?_) (fun hb29 => ?_)
  · skip
    refine Exec.assocS ?_
    refine Exec.reg ?_
    refine Run.cal (c_law_awake) (by simp only [go_sem]) (by simp only [go_sem] <;> rfl) (by exact trivial) (fr0) (by simp only [go_sem] <;> rfl) ?_
    refine Run.op (by simp only [go_sem] <;> rfl) (by simp only [go_sem] <;> rfl) ?_
    refine Run.nil ?_
    refine Exec.retS ?_
    exact Ends.fin [] (rs := [.tmp 6]) rfl (by simp only [go_sem] <;> rfl) (by simp only [go_sem] <;> first | rfl | ((repeat' (first | with_reducible_and_instances rfl | refine st_eq ?_ ?_ ?_ | refine ret_eq ?_ | refine tup_eq ?_ | refine tm_eq ?_ ?_ | refine arr_eq ?_ | refine cells_eq ?_ | refine val_eq ?_ | refine ls_eq ?_ ?_ | refine own_eq ?_ ?_ | refine sl_eq ?_ | refine b_eq ?_ | (refine i_eq ?_; omega))); done))
  have hl30 : l.length ≤ 30 := by have := of_decide_eq_false hb29; omega
  have hl : l.length ≤ 1000 := by omega
  refine Exec.skipS ?_
  refine Exec.reg ?_
  iterate 2 (refine Run.op (by simp only [go_sem] <;> rfl) (by simp only [go_sem] <;> rfl) ?_)
  refine Run.cal (c_drum_Run r l hl) (by simp only [go_sem]) (by simp only [go_sem] <;> rfl) (by exact ⟨by first | exact WkR.pure rfl | exact WkR.nil _ | exact WkR.int (by first | omega | (simp; done) | (simp; omega)), by first | exact WkR.pure rfl | exact WkR.nil _ | exact WkR.int (by first | omega | (simp; done) | (simp; omega)), trivial⟩) (fr0) (by simp only [go_sem] <;> rfl) ?_
  iterate 7 (refine Run.op (by simp only [go_sem] <;> rfl) (by simp only [go_sem] <;> rfl) ?_)
  refine Run.nil ?_
  refine Exec.assocS ?_
  by_cases he : errD r l = 0
  · skip
    obtain ⟨hreg, hl32, hlb⟩ := err_zero he
    have hq := reg_iff.1 hreg
    have htb := turn_bnd hq.1.2
    have htot := total_bnd hreg l
    have hrun := run_zero he
    by_cases hm1 : more < -4294967296
    · skip
      have g3 : decide (more < -4294967296) = true := by simpa using hm1
      refine Exec.reg ?_
      refine Run.op (by simp only [go_sem] <;> rfl) (by simp only [go_sem] <;> rfl) ?_
      iterate 2 (refine Run.op (by simp only [go_sem, hrun, g3] <;> rfl) (by simp only [go_sem] <;> rfl) ?_)
      refine Run.yes (by simp only [go_sem] <;> rfl) (by simp only [go_sem] <;> rfl) (by simp only [go_sem] <;> rfl) ?_
      refine Run.yes (by simp only [go_sem] <;> rfl) (by simp only [go_sem, hrun, g3] <;> rfl) (by simp only [go_sem] <;> rfl) ?_
      iterate 2 (refine Run.op (by simp only [go_sem, hrun, g3] <;> rfl) (by simp only [go_sem] <;> rfl) ?_)
      iterate 2 (refine Run.skp (by simp only [go_sem] <;> rfl) (by simp only [go_sem] <;> rfl) ?_)
      refine Run.op (by simp only [go_sem, hrun, g3] <;> rfl) (by simp only [go_sem] <;> rfl) ?_
      refine Run.nil ?_
      refine Exec.cndS (by simp only [go_sem, hrun, g3] <;> rfl) (fun hb47 => ?_) (fun hb47 => ?_)
      · skip
        refine Exec.assocS ?_
        refine Exec.reg ?_
        refine Run.op (by simp only [go_sem] <;> rfl) (by simp only [go_sem] <;> rfl) ?_
        iterate 2 (refine Run.op (by simp only [go_sem, hrun, g3] <;> rfl) (by simp only [go_sem] <;> rfl) ?_)
        iterate 7 (refine Run.skp (by simp only [go_sem] <;> rfl) (by simp only [go_sem] <;> rfl) ?_)
        iterate 2 (refine Run.op (by simp only [go_sem, hrun, g3] <;> rfl) (by simp only [go_sem] <;> rfl) ?_)
        refine Run.calw (by simp only [go_sem] <;> rfl) (c_law_awake) (by simp only [go_sem]) (by simp only [go_sem, hrun, g3] <;> rfl) (by simp only [go_sem, hrun, g3] <;> rfl) (by exact trivial) (fr0) (by simp only [go_sem, hrun, g3] <;> rfl) ?_
        refine Run.op (by simp only [go_sem, hrun, g3] <;> rfl) (by simp only [go_sem] <;> rfl) ?_
        refine Run.op (by simp only [go_sem] <;> rfl) (by simp only [go_sem] <;> rfl) ?_
        refine Run.nil ?_
        refine Exec.retS ?_
        exact Ends.fin [] (rs := [.tmp 6]) rfl (by simp only [go_sem, hrun, g3] <;> rfl) (by simp only [go_sem, hrun, g3] <;> first | rfl | ((repeat' (first | with_reducible_and_instances rfl | refine st_eq ?_ ?_ ?_ | refine ret_eq ?_ | refine tup_eq ?_ | refine tm_eq ?_ ?_ | refine arr_eq ?_ | refine cells_eq ?_ | refine val_eq ?_ | refine ls_eq ?_ ?_ | refine own_eq ?_ ?_ | refine sl_eq ?_ | refine b_eq ?_ | (refine i_eq ?_; omega))); done))
      · exact absurd hb47 (by simp)
    have g3 : decide (more < -4294967296) = false := by simpa using hm1
    refine Exec.reg ?_
    refine Run.op (by simp only [go_sem] <;> rfl) (by simp only [go_sem] <;> rfl) ?_
    iterate 2 (refine Run.op (by simp only [go_sem, hrun, g3] <;> rfl) (by simp only [go_sem] <;> rfl) ?_)
    refine Run.yes (by simp only [go_sem] <;> rfl) (by simp only [go_sem] <;> rfl) (by simp only [go_sem] <;> rfl) ?_
    refine Run.yes (by simp only [go_sem] <;> rfl) (by simp only [go_sem, hrun, g3] <;> rfl) (by simp only [go_sem] <;> rfl) ?_
    iterate 2 (refine Run.op (by simp only [go_sem, hrun, g3] <;> rfl) (by simp only [go_sem] <;> rfl) ?_)
    refine Run.yes (by simp only [go_sem] <;> rfl) (by simp only [go_sem] <;> rfl) (by simp only [go_sem] <;> rfl) ?_
    refine Run.yes (by simp only [go_sem] <;> rfl) (by simp only [go_sem, hrun, g3] <;> rfl) (by simp only [go_sem] <;> rfl) ?_
    refine Run.op (by simp only [go_sem, hrun, g3] <;> rfl) (by simp only [go_sem] <;> rfl) ?_
    refine Run.nil ?_
    refine Exec.cndS (by simp only [go_sem, hrun, g3] <;> rfl) (fun hb47 => ?_) (fun hb47 => ?_)
    · skip
      refine Exec.assocS ?_
      refine Exec.reg ?_
      refine Run.op (by simp only [go_sem] <;> rfl) (by simp only [go_sem] <;> rfl) ?_
      iterate 2 (refine Run.op (by simp only [go_sem, hrun, g3] <;> rfl) (by simp only [go_sem] <;> rfl) ?_)
      iterate 7 (refine Run.skp (by simp only [go_sem] <;> rfl) (by simp only [go_sem] <;> rfl) ?_)
      iterate 2 (refine Run.op (by simp only [go_sem, hrun, g3] <;> rfl) (by simp only [go_sem] <;> rfl) ?_)
      refine Run.calw (by simp only [go_sem] <;> rfl) (c_law_awake) (by simp only [go_sem]) (by simp only [go_sem, hrun, g3] <;> rfl) (by simp only [go_sem, hrun, g3] <;> rfl) (by exact trivial) (fr0) (by simp only [go_sem, hrun, g3] <;> rfl) ?_
      refine Run.op (by simp only [go_sem, hrun, g3] <;> rfl) (by simp only [go_sem] <;> rfl) ?_
      refine Run.op (by simp only [go_sem] <;> rfl) (by simp only [go_sem] <;> rfl) ?_
      refine Run.nil ?_
      refine Exec.retS ?_
      exact Ends.fin [] (rs := [.tmp 6]) rfl (by simp only [go_sem, hrun, g3] <;> rfl) (by simp only [go_sem, hrun, g3] <;> first | rfl | ((repeat' (first | with_reducible_and_instances rfl | refine st_eq ?_ ?_ ?_ | refine ret_eq ?_ | refine tup_eq ?_ | refine tm_eq ?_ ?_ | refine arr_eq ?_ | refine cells_eq ?_ | refine val_eq ?_ | refine ls_eq ?_ ?_ | refine own_eq ?_ ?_ | refine sl_eq ?_ | refine b_eq ?_ | (refine i_eq ?_; omega))); done))
    have hm2 : ¬ more > 4294967296 := of_decide_eq_false hb47
    have hmb : ∀ n ∈ [more], -1099511627776 ≤ n ∧ n ≤ 1099511627776 := fun n hn => by rw [List.mem_singleton.1 hn]; omega
    have hmb2 : ∀ n ∈ [more, -more], -1099511627776 ≤ n ∧ n ≤ 1099511627776 := fun n hn => by
      rcases List.mem_cons.1 hn with rfl | hn
      · omega
      · rw [List.mem_singleton.1 hn]; omega
    have hmb3 : ∀ n ∈ [turnD r.drums], -1099511627776 ≤ n ∧ n ≤ 1099511627776 := fun n hn => by rw [List.mem_singleton.1 hn]; omega
    have ea := err_app (m := [more]) he (by simp; omega) hmb
    have ec := err_app (m := [more, -more]) he (by simp; omega) hmb2
    have ed := err_app (m := [turnD r.drums]) he (by simp; omega) hmb3
    obtain ⟨b1, b2, b3, b4⟩ := back_total he more
    have hr2 : regB ⟨r.drums, (totalD r l)⟩ = true := reg_iff.2 ⟨hq.1, by simp only; omega⟩
    have eb : errD ⟨r.drums, (totalD r l)⟩ [more] = 0 := by
      unfold errD
      rw [if_neg (by simp [hr2]), if_neg (by simp), if_neg]
      have : [more].all (fun n => inD n (-1099511627776) 1099511627776) = true := List.all_eq_true.2 fun n hn => inD_iff.2 (hmb n hn)
      simp [this]
    have ra : runR r (l ++ [more]) = (totalD r (l ++ [more]), (placesD r.drums.toNat (totalD r (l ++ [more]))).map figD, 0) := run_zero ea
    have rb : runR ⟨r.drums, (totalD r l)⟩ [more] = (totalD r (l ++ [more]), (placesD r.drums.toNat (totalD r (l ++ [more]))).map figD, 0) := by rw [run_zero eb, ← b1]
    have rc : runR r (l ++ [more, 0 - more]) = ((totalD r l), (placesD r.drums.toNat (totalD r l)).map figD, 0) := by rw [show (0 - more) = -more by omega, run_zero ec, b2]
    have rd : runR r (l ++ [turnD r.drums]) = ((totalD r l), (placesD r.drums.toNat (totalD r l)).map figD, 0) := by rw [run_zero ed, b3]
    have g1 : decide ((totalD r l) < 0) = false := decide_eq_false (by omega)
    have g2 : decide ((totalD r l) ≥ turnD r.drums) = false := decide_eq_false (by omega)
    refine Exec.skipS ?_
    refine Exec.assocS ?_
    refine Exec.reg ?_
    refine Run.op (by simp only [go_sem, hrun, g3, ra, rb, rc, rd, g1, g2, hreg, Bool.not_true] <;> rfl) (by simp only [go_sem] <;> rfl) ?_
    refine Run.cal (c_meterworksref02_Register r) (by simp only [go_sem]) (by simp only [go_sem, hrun, g3, ra, rb, rc, rd, g1, g2, hreg, Bool.not_true] <;> rfl) (by exact ⟨by first | exact WkR.pure rfl | exact WkR.nil _ | exact WkR.int (by first | omega | (simp; done) | (simp; omega)), trivial⟩) (fr0) (by simp only [go_sem, hrun, g3, ra, rb, rc, rd, g1, g2, hreg, Bool.not_true] <;> rfl) ?_
    iterate 2 (refine Run.op (by simp only [go_sem, hrun, g3, ra, rb, rc, rd, g1, g2, hreg, Bool.not_true] <;> rfl) (by simp only [go_sem] <;> rfl) ?_)
    refine Run.yes (by simp only [go_sem] <;> rfl) (by simp only [go_sem] <;> rfl) (by simp only [go_sem] <;> rfl) ?_
    refine Run.yes (by simp only [go_sem] <;> rfl) (by simp only [go_sem, hrun, g3, ra, rb, rc, rd, g1, g2, hreg, Bool.not_true] <;> rfl) (by simp only [go_sem] <;> rfl) ?_
    iterate 2 (refine Run.op (by simp only [go_sem, hrun, g3, ra, rb, rc, rd, g1, g2, hreg, Bool.not_true] <;> rfl) (by simp only [go_sem] <;> rfl) ?_)
    iterate 2 (refine Run.yes (by simp only [go_sem] <;> rfl) (by simp only [go_sem] <;> rfl) (by simp only [go_sem] <;> rfl) ?_)
    refine Run.yes (by simp only [go_sem] <;> rfl) (by simp only [go_sem, hrun, g3, ra, rb, rc, rd, g1, g2, hreg, Bool.not_true] <;> rfl) (by simp only [go_sem] <;> rfl) ?_
    refine Run.calw (by simp only [go_sem] <;> rfl) (c_meterworksref02_Turn r.drums (by omega)) (by simp only [go_sem]) (by simp only [go_sem, hrun, g3, ra, rb, rc, rd, g1, g2, hreg, Bool.not_true] <;> rfl) (by simp only [go_sem, hrun, g3, ra, rb, rc, rd, g1, g2, hreg, Bool.not_true] <;> rfl) (by exact ⟨by first | exact WkR.pure rfl | exact WkR.nil _ | exact WkR.int (by first | omega | (simp; done) | (simp; omega)), trivial⟩) (fr0) (by simp only [go_sem, hrun, g3, ra, rb, rc, rd, g1, g2, hreg, Bool.not_true] <;> rfl) ?_
    refine Run.yes (by simp only [go_sem] <;> rfl) (by simp only [go_sem, hrun, g3, ra, rb, rc, rd, g1, g2, hreg, Bool.not_true] <;> rfl) (by simp only [go_sem] <;> rfl) ?_
    refine Run.op (by simp only [go_sem, hrun, g3, ra, rb, rc, rd, g1, g2, hreg, Bool.not_true] <;> rfl) (by simp only [go_sem] <;> rfl) ?_
    refine Run.nil ?_
    refine Exec.cndS (by simp only [go_sem, hrun, g3, ra, rb, rc, rd, g1, g2, hreg, Bool.not_true] <;> rfl) (fun hb75 => ?_) (fun hb75 => ?_)
    · exact absurd hb75 (by simp)
    refine Exec.skipS ?_
    refine Exec.reg ?_
    iterate 2 (refine Run.op (by simp only [go_sem] <;> rfl) (by simp only [go_sem] <;> rfl) ?_)
    refine Run.nil ?_
    refine Exec.assocS ?_
    refine Exec.reg ?_
    refine Run.op (by simp only [go_sem] <;> rfl) (by simp only [go_sem] <;> rfl) ?_
    refine Run.nil ?_
    refine Exec.blk ?_
    refine Exec.forA [1, 2, 3, 7, 8, 10, 11] [3] (l.length) (fun k => [.slot 11 (.int k), .slot 10 (.int (more + sumD (l.take k)))]) (fun _ => True) (fun k => by simp only [go_sem] <;> rfl) (by simp only [go_sem, hrun, g3, ra, rb, rc, rd, g1, g2, hreg, Bool.not_true, List.take_zero, sumD, Int.add_zero, Int.natCast_zero] <;> rfl) ?_ (fun k hk hX => ?_)
    · trivial
    refine Exec.assocS ?_
    refine Exec.reg ?_
    iterate 2 (refine Run.op (by simp only [go_sem] <;> rfl) (by simp only [go_sem] <;> rfl) ?_)
    iterate 2 (refine Run.op (by simp only [go_sem, hrun, g3, ra, rb, rc, rd, g1, g2, hreg, Bool.not_true] <;> rfl) (by simp only [go_sem] <;> rfl) ?_)
    refine Run.nil ?_
    refine Exec.cndS (by simp only [go_sem, hrun, g3, ra, rb, rc, rd, g1, g2, hreg, Bool.not_true] <;> rfl) (fun hb80 => ?_) (fun hb80 => ?_)
    · skip
      have hlt := lt_of_dec hb80
      obtain ⟨s, hs⟩ := elem_of hb80
      have hs1 : sumD (l.take (k + 1)) = sumD (l.take k) + s := by rw [take_succ_snoc hs, sum_snoc]
      have hb1 := sum_bnd (l := l.take k) fun n hn => hlb n (List.mem_of_mem_take hn)
      have hb2 := hlb s (List.mem_of_getElem? hs)
      have hb3 : (l.take k).length ≤ 32 := by rw [List.length_take]; omega
      refine Exec.skipS ?_
      refine Exec.blk ?_
      refine Exec.reg1 ?_
      iterate 3 (refine Run.op (by simp only [go_sem] <;> rfl) (by simp only [go_sem] <;> rfl) ?_)
      refine Run.op (by simp only [go_sem, hrun, g3, ra, rb, rc, rd, g1, g2, hreg, Bool.not_true, hs, hs1]; (try simp (disch := omega) only [if_pos]); (try simp only [go_sem, hrun, g3, ra, rb, rc, rd, g1, g2, hreg, Bool.not_true, hs, hs1])<;> rfl) (by simp only [go_sem] <;> rfl) ?_
      refine Run.op (by simp only [go_sem, hrun, g3, ra, rb, rc, rd, g1, g2, hreg, Bool.not_true, hs, hs1] <;> rfl) (by simp only [go_sem] <;> rfl) ?_
      refine Run.op (by simp only [go_sem, hrun, g3, ra, rb, rc, rd, g1, g2, hreg, Bool.not_true, hs, hs1]; (try simp (disch := omega) only [IntWalk.i64_in, IntWalk.u64_in, if_neg, if_pos])<;> rfl) (by simp only [go_sem] <;> rfl) ?_
      refine Run.op (by simp only [go_sem] <;> rfl) (by simp only [go_sem] <;> rfl) ?_
      refine Run.nil ?_
      refine BlkK.nrm ?_
      refine Exec.reg1 ?_
      refine Run.op (by simp only [go_sem] <;> rfl) (by simp only [go_sem] <;> rfl) ?_
      refine Run.op (by simp only [go_sem, hrun, g3, ra, rb, rc, rd, g1, g2, hreg, Bool.not_true, hs, hs1]; (try simp (disch := omega) only [IntWalk.i64_in, IntWalk.u64_in, if_neg, if_pos])<;> rfl) (by simp only [go_sem] <;> rfl) ?_
      refine Run.op (by simp only [go_sem] <;> rfl) (by simp only [go_sem] <;> rfl) ?_
      refine Run.nil ?_
      refine ForK.nxt ?_ ?_ ?_
      · omega
      · exact Ghost.kp [1, 2, 3, 7, 8, 10, 11] [3] (by simp only [go_sem, hrun, g3, ra, rb, rc, rd, g1, g2, hreg, Bool.not_true, hs, hs1]; first | ((repeat' (first | with_reducible_and_instances rfl | refine st_eq ?_ ?_ ?_ | refine ret_eq ?_ | refine tup_eq ?_ | refine tm_eq ?_ ?_ | refine arr_eq ?_ | refine cells_eq ?_ | refine val_eq ?_ | refine ls_eq ?_ ?_ | refine own_eq ?_ ?_ | refine sl_eq ?_ | refine b_eq ?_ | (refine i_eq ?_; omega))); (all_goals (first | omega | (simp; omega)))) | rfl)
      · trivial
    have hke : k = l.length := by have := ge_of_dec hb80; omega
    subst hke
    refine Exec.exitS ?_
    refine ForK.ext ?_
    refine BlkK.hit ?_
    refine Exec.opk 17 ?_
    iterate 2 (refine OpenK.op (by simp only [go_sem, hrun, g3, ra, rb, rc, rd, g1, g2, hreg, Bool.not_true, List.take_length] <;> rfl) (by simp only [go_sem] <;> rfl) (by simp only [go_sem] <;> rfl) ?_)
    refine OpenK.op (by simp only [go_sem] <;> rfl) (by simp only [go_sem] <;> rfl) (by simp only [go_sem] <;> rfl) ?_
    refine OpenK.op (by simp only [go_sem, hrun, g3, ra, rb, rc, rd, g1, g2, hreg, Bool.not_true, List.take_length]; (try simp (disch := omega) only [if_pos]); (try simp only [go_sem, hrun, g3, ra, rb, rc, rd, g1, g2, hreg, Bool.not_true, List.take_length]) <;> first | (refine ite_run ⟨by (try simp only [List.length_append, List.length_drop, List.length_take, List.length_map, List.length_cons, List.length_nil, List.length_replicate, List.length_set, List.length_range, Nat.zero_add]); omega, by (try simp only [List.length_append, List.length_drop, List.length_take, List.length_map, List.length_cons, List.length_nil, List.length_replicate, List.length_set, List.length_range, Nat.zero_add]); omega, by repeat (first | exact al_nil | assumption | refine al_app ?_ ?_ | refine al_drop ?_ | refine al_take ?_ | exact al_map (fun _ => rfl) | exact al_rep rfl | refine al_cons rfl ?_)⟩ ?_; simp only [go_sem, hrun, g3, ra, rb, rc, rd, g1, g2, hreg, Bool.not_true, List.take_length] <;> rfl) | (refine ite_run ⟨by (try simp only [List.length_append, List.length_drop, List.length_take, List.length_map, List.length_cons, List.length_nil, List.length_replicate, List.length_set, List.length_range, Nat.zero_add]); omega, by repeat (first | exact al_nil | assumption | refine al_app ?_ ?_ | refine al_drop ?_ | refine al_take ?_ | exact al_map (fun _ => rfl) | exact al_rep rfl | refine al_cons rfl ?_)⟩ ?_; simp only [go_sem, hrun, g3, ra, rb, rc, rd, g1, g2, hreg, Bool.not_true, List.take_length] <;> rfl) | rfl) (by simp only [go_sem] <;> rfl) (by simp only [go_sem] <;> rfl) ?_
    refine OpenK.op (by simp only [go_sem] <;> rfl) (by simp only [go_sem] <;> rfl) (by simp only [go_sem] <;> rfl) ?_
    refine OpenK.op (by simp only [go_sem, hrun, g3, ra, rb, rc, rd, g1, g2, hreg, Bool.not_true, List.take_length] <;> rfl) (by simp only [go_sem] <;> rfl) (by simp only [go_sem] <;> rfl) ?_
    refine OpenK.op (by simp only [go_sem, hrun, g3, ra, rb, rc, rd, g1, g2, hreg, Bool.not_true, List.take_length]; (try simp (disch := omega) only [if_pos]); (try simp only [go_sem, hrun, g3, ra, rb, rc, rd, g1, g2, hreg, Bool.not_true, List.take_length]) <;> first | (refine ite_run ⟨by (try simp only [List.length_append, List.length_drop, List.length_take, List.length_map, List.length_cons, List.length_nil, List.length_replicate, List.length_set, List.length_range, Nat.zero_add]); omega, by (try simp only [List.length_append, List.length_drop, List.length_take, List.length_map, List.length_cons, List.length_nil, List.length_replicate, List.length_set, List.length_range, Nat.zero_add]); omega, by repeat (first | exact al_nil | assumption | refine al_app ?_ ?_ | refine al_drop ?_ | refine al_take ?_ | exact al_map (fun _ => rfl) | exact al_rep rfl | refine al_cons rfl ?_)⟩ ?_; simp only [go_sem, hrun, g3, ra, rb, rc, rd, g1, g2, hreg, Bool.not_true, List.take_length] <;> rfl) | (refine ite_run ⟨by (try simp only [List.length_append, List.length_drop, List.length_take, List.length_map, List.length_cons, List.length_nil, List.length_replicate, List.length_set, List.length_range, Nat.zero_add]); omega, by repeat (first | exact al_nil | assumption | refine al_app ?_ ?_ | refine al_drop ?_ | refine al_take ?_ | exact al_map (fun _ => rfl) | exact al_rep rfl | refine al_cons rfl ?_)⟩ ?_; simp only [go_sem, hrun, g3, ra, rb, rc, rd, g1, g2, hreg, Bool.not_true, List.take_length] <;> rfl) | rfl) (by simp only [go_sem] <;> rfl) (by simp only [go_sem] <;> rfl) ?_
    refine OpenK.lend 900 91 (by simp only [go_sem] <;> rfl) (c_Run_l r (l ++ [more]) (by simp; omega)) (by simp only [go_sem]) (by simp only [go_sem] <;> rfl) (by simp only [go_sem] <;> rfl) (by simp only [go_sem, List.map_append] <;> rfl) (by exact ⟨WkR.pure rfl, WkR.of rfl (by simp only [go_sem] <;> rfl), trivial⟩) (by simp only [go_sem] <;> rfl) (by simp only [go_sem] <;> rfl) (by simp only [go_sem] <;> rfl) ?_
    refine OpenK.op (by simp only [go_sem] <;> rfl) (by simp only [go_sem] <;> rfl) (by simp only [go_sem] <;> rfl) ?_
    iterate 3 (refine OpenK.op (by simp only [go_sem, hrun, g3, ra, rb, rc, rd, g1, g2, hreg, Bool.not_true, List.take_length] <;> rfl) (by simp only [go_sem] <;> rfl) (by simp only [go_sem] <;> rfl) ?_)
    iterate 3 (refine OpenK.op (by simp only [go_sem] <;> rfl) (by simp only [go_sem] <;> rfl) (by simp only [go_sem] <;> rfl) ?_)
    refine OpenK.nil (OpenE.fin (by decide +kernel) (by decide +kernel) ?_)
    refine Exec.reg ?_
    refine Run.op (by simp only [go_sem] <;> rfl) (by simp only [go_sem] <;> rfl) ?_
    refine Run.op (by simp only [go_sem, hrun, g3, ra, rb, rc, rd, g1, g2, hreg, Bool.not_true, List.take_length] <;> rfl) (by simp only [go_sem] <;> rfl) ?_
    iterate 3 (refine Run.op (by simp only [go_sem] <;> rfl) (by simp only [go_sem] <;> rfl) ?_)
    refine Run.op (by simp only [go_sem, hrun, g3, ra, rb, rc, rd, g1, g2, hreg, Bool.not_true, List.take_length] <;> rfl) (by simp only [go_sem] <;> rfl) ?_
    refine Run.frz 107 (by simp only [go_sem] <;> rfl) ?_
    refine Run.cal (c_drum_Run ⟨r.drums, (totalD r l)⟩ [more] (by simp)) (by simp only [go_sem]) (by simp only [go_sem, hrun, g3, ra, rb, rc, rd, g1, g2, hreg, Bool.not_true, List.take_length] <;> rfl) (by exact ⟨by first | exact WkR.pure rfl | exact WkR.nil _ | exact WkR.int (by first | omega | (simp; done) | (simp; omega)), by first | exact WkR.pure rfl | exact WkR.nil _ | exact WkR.int (by first | omega | (simp; done) | (simp; omega)), trivial⟩) (fr0) (by simp only [go_sem, hrun, g3, ra, rb, rc, rd, g1, g2, hreg, Bool.not_true, List.take_length] <;> rfl) ?_
    refine Run.op (by simp only [go_sem] <;> rfl) (by simp only [go_sem] <;> rfl) ?_
    iterate 3 (refine Run.op (by simp only [go_sem, hrun, g3, ra, rb, rc, rd, g1, g2, hreg, Bool.not_true, List.take_length] <;> rfl) (by simp only [go_sem] <;> rfl) ?_)
    iterate 3 (refine Run.op (by simp only [go_sem] <;> rfl) (by simp only [go_sem] <;> rfl) ?_)
    refine Run.nil ?_
    refine Exec.opk 19 ?_
    iterate 2 (refine OpenK.op (by simp only [go_sem, hrun, g3, ra, rb, rc, rd, g1, g2, hreg, Bool.not_true, List.take_length] <;> rfl) (by simp only [go_sem] <;> rfl) (by simp only [go_sem] <;> rfl) ?_)
    refine OpenK.op (by simp only [go_sem] <;> rfl) (by simp only [go_sem] <;> rfl) (by simp only [go_sem] <;> rfl) ?_
    refine OpenK.op (by simp only [go_sem, hrun, g3, ra, rb, rc, rd, g1, g2, hreg, Bool.not_true, List.take_length]; (try simp (disch := omega) only [if_pos]); (try simp only [go_sem, hrun, g3, ra, rb, rc, rd, g1, g2, hreg, Bool.not_true, List.take_length]) <;> first | (refine ite_run ⟨by (try simp only [List.length_append, List.length_drop, List.length_take, List.length_map, List.length_cons, List.length_nil, List.length_replicate, List.length_set, List.length_range, Nat.zero_add]); omega, by (try simp only [List.length_append, List.length_drop, List.length_take, List.length_map, List.length_cons, List.length_nil, List.length_replicate, List.length_set, List.length_range, Nat.zero_add]); omega, by repeat (first | exact al_nil | assumption | refine al_app ?_ ?_ | refine al_drop ?_ | refine al_take ?_ | exact al_map (fun _ => rfl) | exact al_rep rfl | refine al_cons rfl ?_)⟩ ?_; simp only [go_sem, hrun, g3, ra, rb, rc, rd, g1, g2, hreg, Bool.not_true, List.take_length] <;> rfl) | (refine ite_run ⟨by (try simp only [List.length_append, List.length_drop, List.length_take, List.length_map, List.length_cons, List.length_nil, List.length_replicate, List.length_set, List.length_range, Nat.zero_add]); omega, by repeat (first | exact al_nil | assumption | refine al_app ?_ ?_ | refine al_drop ?_ | refine al_take ?_ | exact al_map (fun _ => rfl) | exact al_rep rfl | refine al_cons rfl ?_)⟩ ?_; simp only [go_sem, hrun, g3, ra, rb, rc, rd, g1, g2, hreg, Bool.not_true, List.take_length] <;> rfl) | rfl) (by simp only [go_sem] <;> rfl) (by simp only [go_sem] <;> rfl) ?_
    iterate 2 (refine OpenK.op (by simp only [go_sem] <;> rfl) (by simp only [go_sem] <;> rfl) (by simp only [go_sem] <;> rfl) ?_)
    refine OpenK.op (by simp only [go_sem, hrun, g3, ra, rb, rc, rd, g1, g2, hreg, Bool.not_true, List.take_length]; (try simp (disch := omega) only [IntWalk.i64_in, IntWalk.u64_in, if_neg, if_pos])<;> rfl) (by simp only [go_sem] <;> rfl) (by simp only [go_sem] <;> rfl) ?_
    refine OpenK.op (by simp only [go_sem, hrun, g3, ra, rb, rc, rd, g1, g2, hreg, Bool.not_true, List.take_length] <;> rfl) (by simp only [go_sem] <;> rfl) (by simp only [go_sem] <;> rfl) ?_
    refine OpenK.op (by simp only [go_sem, hrun, g3, ra, rb, rc, rd, g1, g2, hreg, Bool.not_true, List.take_length]; (try simp (disch := omega) only [if_pos]); (try simp only [go_sem, hrun, g3, ra, rb, rc, rd, g1, g2, hreg, Bool.not_true, List.take_length]) <;> first | (refine ite_run ⟨by (try simp only [List.length_append, List.length_drop, List.length_take, List.length_map, List.length_cons, List.length_nil, List.length_replicate, List.length_set, List.length_range, Nat.zero_add]); omega, by (try simp only [List.length_append, List.length_drop, List.length_take, List.length_map, List.length_cons, List.length_nil, List.length_replicate, List.length_set, List.length_range, Nat.zero_add]); omega, by repeat (first | exact al_nil | assumption | refine al_app ?_ ?_ | refine al_drop ?_ | refine al_take ?_ | exact al_map (fun _ => rfl) | exact al_rep rfl | refine al_cons rfl ?_)⟩ ?_; simp only [go_sem, hrun, g3, ra, rb, rc, rd, g1, g2, hreg, Bool.not_true, List.take_length] <;> rfl) | (refine ite_run ⟨by (try simp only [List.length_append, List.length_drop, List.length_take, List.length_map, List.length_cons, List.length_nil, List.length_replicate, List.length_set, List.length_range, Nat.zero_add]); omega, by repeat (first | exact al_nil | assumption | refine al_app ?_ ?_ | refine al_drop ?_ | refine al_take ?_ | exact al_map (fun _ => rfl) | exact al_rep rfl | refine al_cons rfl ?_)⟩ ?_; simp only [go_sem, hrun, g3, ra, rb, rc, rd, g1, g2, hreg, Bool.not_true, List.take_length] <;> rfl) | rfl) (by simp only [go_sem] <;> rfl) (by simp only [go_sem] <;> rfl) ?_
    refine OpenK.lend 900 114 (by simp only [go_sem] <;> rfl) (c_Run_l r (l ++ [more, 0 - more]) (by simp; omega)) (by simp only [go_sem]) (by simp only [go_sem] <;> rfl) (by simp only [go_sem] <;> rfl) (by simp only [go_sem, List.map_append] <;> rfl) (by exact ⟨WkR.pure rfl, WkR.of rfl (by simp only [go_sem] <;> rfl), trivial⟩) (by simp only [go_sem] <;> rfl) (by simp only [go_sem] <;> rfl) (by simp only [go_sem] <;> rfl) ?_
    refine OpenK.op (by simp only [go_sem] <;> rfl) (by simp only [go_sem] <;> rfl) (by simp only [go_sem] <;> rfl) ?_
    iterate 3 (refine OpenK.op (by simp only [go_sem, hrun, g3, ra, rb, rc, rd, g1, g2, hreg, Bool.not_true, List.take_length] <;> rfl) (by simp only [go_sem] <;> rfl) (by simp only [go_sem] <;> rfl) ?_)
    iterate 3 (refine OpenK.op (by simp only [go_sem] <;> rfl) (by simp only [go_sem] <;> rfl) (by simp only [go_sem] <;> rfl) ?_)
    refine OpenK.nil (OpenE.finT (by kernel_rfl) (by kernel_rfl) (by kernel_rfl) ?_)
    refine Exec.opk 19 ?_
    iterate 2 (refine OpenK.op (by simp only [go_sem, hrun, g3, ra, rb, rc, rd, g1, g2, hreg, Bool.not_true, List.take_length] <;> rfl) (by simp only [go_sem] <;> rfl) (by simp only [go_sem] <;> rfl) ?_)
    refine OpenK.op (by simp only [go_sem] <;> rfl) (by simp only [go_sem] <;> rfl) (by simp only [go_sem] <;> rfl) ?_
    refine OpenK.op (by simp only [go_sem, hrun, g3, ra, rb, rc, rd, g1, g2, hreg, Bool.not_true, List.take_length]; (try simp (disch := omega) only [if_pos]); (try simp only [go_sem, hrun, g3, ra, rb, rc, rd, g1, g2, hreg, Bool.not_true, List.take_length]) <;> first | (refine ite_run ⟨by (try simp only [List.length_append, List.length_drop, List.length_take, List.length_map, List.length_cons, List.length_nil, List.length_replicate, List.length_set, List.length_range, Nat.zero_add]); omega, by (try simp only [List.length_append, List.length_drop, List.length_take, List.length_map, List.length_cons, List.length_nil, List.length_replicate, List.length_set, List.length_range, Nat.zero_add]); omega, by repeat (first | exact al_nil | assumption | refine al_app ?_ ?_ | refine al_drop ?_ | refine al_take ?_ | exact al_map (fun _ => rfl) | exact al_rep rfl | refine al_cons rfl ?_)⟩ ?_; simp only [go_sem, hrun, g3, ra, rb, rc, rd, g1, g2, hreg, Bool.not_true, List.take_length] <;> rfl) | (refine ite_run ⟨by (try simp only [List.length_append, List.length_drop, List.length_take, List.length_map, List.length_cons, List.length_nil, List.length_replicate, List.length_set, List.length_range, Nat.zero_add]); omega, by repeat (first | exact al_nil | assumption | refine al_app ?_ ?_ | refine al_drop ?_ | refine al_take ?_ | exact al_map (fun _ => rfl) | exact al_rep rfl | refine al_cons rfl ?_)⟩ ?_; simp only [go_sem, hrun, g3, ra, rb, rc, rd, g1, g2, hreg, Bool.not_true, List.take_length] <;> rfl) | rfl) (by simp only [go_sem] <;> rfl) (by simp only [go_sem] <;> rfl) ?_
    refine OpenK.op (by simp only [go_sem] <;> rfl) (by simp only [go_sem] <;> rfl) (by simp only [go_sem] <;> rfl) ?_
    refine OpenK.op (by simp only [go_sem, hrun, g3, ra, rb, rc, rd, g1, g2, hreg, Bool.not_true, List.take_length] <;> rfl) (by simp only [go_sem] <;> rfl) (by simp only [go_sem] <;> rfl) ?_
    refine OpenK.cal (c_meterworksref02_Turn r.drums (by omega)) (by simp only [go_sem]) (by simp only [go_sem, hrun, g3, ra, rb, rc, rd, g1, g2, hreg, Bool.not_true, List.take_length] <;> rfl) (by exact ⟨by first | exact WkR.pure rfl | exact WkR.nil _ | exact WkR.int (by first | omega | (simp; done) | (simp; omega)), trivial⟩) (fr0) (by simp only [go_sem, hrun, g3, ra, rb, rc, rd, g1, g2, hreg, Bool.not_true, List.take_length] <;> rfl) (by simp only [go_sem] <;> rfl) (by simp only [go_sem] <;> rfl) ?_
    refine OpenK.op (by simp only [go_sem, hrun, g3, ra, rb, rc, rd, g1, g2, hreg, Bool.not_true, List.take_length] <;> rfl) (by simp only [go_sem] <;> rfl) (by simp only [go_sem] <;> rfl) ?_
    refine OpenK.op (by simp only [go_sem, hrun, g3, ra, rb, rc, rd, g1, g2, hreg, Bool.not_true, List.take_length]; (try simp (disch := omega) only [if_pos]); (try simp only [go_sem, hrun, g3, ra, rb, rc, rd, g1, g2, hreg, Bool.not_true, List.take_length]) <;> first | (refine ite_run ⟨by (try simp only [List.length_append, List.length_drop, List.length_take, List.length_map, List.length_cons, List.length_nil, List.length_replicate, List.length_set, List.length_range, Nat.zero_add]); omega, by (try simp only [List.length_append, List.length_drop, List.length_take, List.length_map, List.length_cons, List.length_nil, List.length_replicate, List.length_set, List.length_range, Nat.zero_add]); omega, by repeat (first | exact al_nil | assumption | refine al_app ?_ ?_ | refine al_drop ?_ | refine al_take ?_ | exact al_map (fun _ => rfl) | exact al_rep rfl | refine al_cons rfl ?_)⟩ ?_; simp only [go_sem, hrun, g3, ra, rb, rc, rd, g1, g2, hreg, Bool.not_true, List.take_length] <;> rfl) | (refine ite_run ⟨by (try simp only [List.length_append, List.length_drop, List.length_take, List.length_map, List.length_cons, List.length_nil, List.length_replicate, List.length_set, List.length_range, Nat.zero_add]); omega, by repeat (first | exact al_nil | assumption | refine al_app ?_ ?_ | refine al_drop ?_ | refine al_take ?_ | exact al_map (fun _ => rfl) | exact al_rep rfl | refine al_cons rfl ?_)⟩ ?_; simp only [go_sem, hrun, g3, ra, rb, rc, rd, g1, g2, hreg, Bool.not_true, List.take_length] <;> rfl) | rfl) (by simp only [go_sem] <;> rfl) (by simp only [go_sem] <;> rfl) ?_
    refine OpenK.lend 900 128 (by simp only [go_sem] <;> rfl) (c_Run_l r (l ++ [turnD r.drums]) (by simp; omega)) (by simp only [go_sem]) (by simp only [go_sem] <;> rfl) (by simp only [go_sem] <;> rfl) (by simp only [go_sem, List.map_append] <;> rfl) (by exact ⟨WkR.pure rfl, WkR.of rfl (by simp only [go_sem] <;> rfl), trivial⟩) (by simp only [go_sem] <;> rfl) (by simp only [go_sem] <;> rfl) (by simp only [go_sem] <;> rfl) ?_
    refine OpenK.op (by simp only [go_sem] <;> rfl) (by simp only [go_sem] <;> rfl) (by simp only [go_sem] <;> rfl) ?_
    iterate 3 (refine OpenK.op (by simp only [go_sem, hrun, g3, ra, rb, rc, rd, g1, g2, hreg, Bool.not_true, List.take_length] <;> rfl) (by simp only [go_sem] <;> rfl) (by simp only [go_sem] <;> rfl) ?_)
    iterate 3 (refine OpenK.op (by simp only [go_sem] <;> rfl) (by simp only [go_sem] <;> rfl) (by simp only [go_sem] <;> rfl) ?_)
    refine OpenK.nil (OpenE.finT (by kernel_rfl) (by kernel_rfl) (by kernel_rfl) ?_)
    refine Exec.assocS ?_
    refine Exec.reg ?_
    refine Run.op (by simp only [go_sem] <;> rfl) (by simp only [go_sem] <;> rfl) ?_
    iterate 2 (refine Run.op (by simp only [go_sem, hrun, g3, ra, rb, rc, rd, g1, g2, hreg, Bool.not_true, List.take_length] <;> rfl) (by simp only [go_sem] <;> rfl) ?_)
    refine Run.yes (by simp only [go_sem] <;> rfl) (by simp only [go_sem] <;> rfl) (by simp only [go_sem] <;> rfl) ?_
    refine Run.yes (by simp only [go_sem] <;> rfl) (by simp only [go_sem, hrun, g3, ra, rb, rc, rd, g1, g2, hreg, Bool.not_true, List.take_length] <;> rfl) (by simp only [go_sem] <;> rfl) ?_
    iterate 2 (refine Run.op (by simp only [go_sem, hrun, g3, ra, rb, rc, rd, g1, g2, hreg, Bool.not_true, List.take_length] <;> rfl) (by simp only [go_sem] <;> rfl) ?_)
    refine Run.yes (by simp only [go_sem] <;> rfl) (by simp only [go_sem] <;> rfl) (by simp only [go_sem] <;> rfl) ?_
    refine Run.yes (by simp only [go_sem] <;> rfl) (by simp only [go_sem, hrun, g3, ra, rb, rc, rd, g1, g2, hreg, Bool.not_true, List.take_length] <;> rfl) (by simp only [go_sem] <;> rfl) ?_
    iterate 2 (refine Run.op (by simp only [go_sem, hrun, g3, ra, rb, rc, rd, g1, g2, hreg, Bool.not_true, List.take_length] <;> rfl) (by simp only [go_sem] <;> rfl) ?_)
    refine Run.yes (by simp only [go_sem] <;> rfl) (by simp only [go_sem] <;> rfl) (by simp only [go_sem] <;> rfl) ?_
    refine Run.yes (by simp only [go_sem] <;> rfl) (by simp only [go_sem, hrun, g3, ra, rb, rc, rd, g1, g2, hreg, Bool.not_true, List.take_length] <;> rfl) (by simp only [go_sem] <;> rfl) ?_
    iterate 2 (refine Run.op (by simp only [go_sem, hrun, g3, ra, rb, rc, rd, g1, g2, hreg, Bool.not_true, List.take_length] <;> rfl) (by simp only [go_sem] <;> rfl) ?_)
    iterate 2 (refine Run.yes (by simp only [go_sem] <;> rfl) (by simp only [go_sem] <;> rfl) (by simp only [go_sem] <;> rfl) ?_)
    refine Run.yes (by simp only [go_sem] <;> rfl) (by simp only [go_sem, hrun, g3, ra, rb, rc, rd, g1, g2, hreg, Bool.not_true, List.take_length] <;> rfl) (by simp only [go_sem] <;> rfl) ?_
    iterate 2 (refine Run.op (by simp only [go_sem, hrun, g3, ra, rb, rc, rd, g1, g2, hreg, Bool.not_true, List.take_length] <;> rfl) (by simp only [go_sem] <;> rfl) ?_)
    iterate 2 (refine Run.yes (by simp only [go_sem] <;> rfl) (by simp only [go_sem] <;> rfl) (by simp only [go_sem] <;> rfl) ?_)
    refine Run.calw (by simp only [go_sem] <;> rfl) (c_meterworksref02_Ints ((placesD r.drums.toNat (totalD r (l ++ [more]))).map figD) ((placesD r.drums.toNat (totalD r (l ++ [more]))).map figD) (by rw [List.length_map, places_len]; omega) (by rw [List.length_map, places_len]; omega)) (by simp only [go_sem]) (by simp only [go_sem, hrun, g3, ra, rb, rc, rd, g1, g2, hreg, Bool.not_true, List.take_length] <;> rfl) (by simp only [go_sem, hrun, g3, ra, rb, rc, rd, g1, g2, hreg, Bool.not_true, List.take_length] <;> rfl) (by exact ⟨by first | exact WkR.pure rfl | exact WkR.nil _ | exact WkR.int (by first | omega | (simp; done) | (simp; omega)), by first | exact WkR.pure rfl | exact WkR.nil _ | exact WkR.int (by first | omega | (simp; done) | (simp; omega)), trivial⟩) (fr0) (by simp only [go_sem, hrun, g3, ra, rb, rc, rd, g1, g2, hreg, Bool.not_true, List.take_length] <;> rfl) ?_
    refine Run.yes (by simp only [go_sem] <;> rfl) (by simp only [go_sem, hrun, g3, ra, rb, rc, rd, g1, g2, hreg, Bool.not_true, List.take_length] <;> rfl) (by simp only [go_sem] <;> rfl) ?_
    iterate 2 (refine Run.op (by simp only [go_sem, hrun, g3, ra, rb, rc, rd, g1, g2, hreg, Bool.not_true, List.take_length] <;> rfl) (by simp only [go_sem] <;> rfl) ?_)
    iterate 2 (refine Run.yes (by simp only [go_sem] <;> rfl) (by simp only [go_sem] <;> rfl) (by simp only [go_sem] <;> rfl) ?_)
    refine Run.yes (by simp only [go_sem] <;> rfl) (by simp only [go_sem, hrun, g3, ra, rb, rc, rd, g1, g2, hreg, Bool.not_true, List.take_length] <;> rfl) (by simp only [go_sem] <;> rfl) ?_
    iterate 2 (refine Run.op (by simp only [go_sem, hrun, g3, ra, rb, rc, rd, g1, g2, hreg, Bool.not_true, List.take_length] <;> rfl) (by simp only [go_sem] <;> rfl) ?_)
    iterate 2 (refine Run.yes (by simp only [go_sem] <;> rfl) (by simp only [go_sem] <;> rfl) (by simp only [go_sem] <;> rfl) ?_)
    refine Run.calw (by simp only [go_sem] <;> rfl) (c_meterworksref02_Ints ((placesD r.drums.toNat (totalD r l)).map figD) ((placesD r.drums.toNat (totalD r l)).map figD) (by rw [List.length_map, places_len]; omega) (by rw [List.length_map, places_len]; omega)) (by simp only [go_sem]) (by simp only [go_sem, hrun, g3, ra, rb, rc, rd, g1, g2, hreg, Bool.not_true, List.take_length] <;> rfl) (by simp only [go_sem, hrun, g3, ra, rb, rc, rd, g1, g2, hreg, Bool.not_true, List.take_length] <;> rfl) (by exact ⟨by first | exact WkR.pure rfl | exact WkR.nil _ | exact WkR.int (by first | omega | (simp; done) | (simp; omega)), by first | exact WkR.pure rfl | exact WkR.nil _ | exact WkR.int (by first | omega | (simp; done) | (simp; omega)), trivial⟩) (fr0) (by simp only [go_sem, hrun, g3, ra, rb, rc, rd, g1, g2, hreg, Bool.not_true, List.take_length] <;> rfl) ?_
    refine Run.yes (by simp only [go_sem] <;> rfl) (by simp only [go_sem, hrun, g3, ra, rb, rc, rd, g1, g2, hreg, Bool.not_true, List.take_length] <;> rfl) (by simp only [go_sem] <;> rfl) ?_
    iterate 2 (refine Run.op (by simp only [go_sem, hrun, g3, ra, rb, rc, rd, g1, g2, hreg, Bool.not_true, List.take_length] <;> rfl) (by simp only [go_sem] <;> rfl) ?_)
    iterate 2 (refine Run.yes (by simp only [go_sem] <;> rfl) (by simp only [go_sem] <;> rfl) (by simp only [go_sem] <;> rfl) ?_)
    refine Run.yes (by simp only [go_sem] <;> rfl) (by simp only [go_sem, hrun, g3, ra, rb, rc, rd, g1, g2, hreg, Bool.not_true, List.take_length] <;> rfl) (by simp only [go_sem] <;> rfl) ?_
    iterate 2 (refine Run.op (by simp only [go_sem, hrun, g3, ra, rb, rc, rd, g1, g2, hreg, Bool.not_true, List.take_length] <;> rfl) (by simp only [go_sem] <;> rfl) ?_)
    iterate 2 (refine Run.yes (by simp only [go_sem] <;> rfl) (by simp only [go_sem] <;> rfl) (by simp only [go_sem] <;> rfl) ?_)
    refine Run.calw (by simp only [go_sem] <;> rfl) (c_meterworksref02_Ints ((placesD r.drums.toNat (totalD r l)).map figD) ((placesD r.drums.toNat (totalD r l)).map figD) (by rw [List.length_map, places_len]; omega) (by rw [List.length_map, places_len]; omega)) (by simp only [go_sem]) (by simp only [go_sem, hrun, g3, ra, rb, rc, rd, g1, g2, hreg, Bool.not_true, List.take_length] <;> rfl) (by simp only [go_sem, hrun, g3, ra, rb, rc, rd, g1, g2, hreg, Bool.not_true, List.take_length] <;> rfl) (by exact ⟨by first | exact WkR.pure rfl | exact WkR.nil _ | exact WkR.int (by first | omega | (simp; done) | (simp; omega)), by first | exact WkR.pure rfl | exact WkR.nil _ | exact WkR.int (by first | omega | (simp; done) | (simp; omega)), trivial⟩) (fr0) (by simp only [go_sem, hrun, g3, ra, rb, rc, rd, g1, g2, hreg, Bool.not_true, List.take_length] <;> rfl) ?_
    refine Run.yes (by simp only [go_sem] <;> rfl) (by simp only [go_sem, hrun, g3, ra, rb, rc, rd, g1, g2, hreg, Bool.not_true, List.take_length] <;> rfl) (by simp only [go_sem] <;> rfl) ?_
    refine Run.op (by simp only [go_sem, hrun, g3, ra, rb, rc, rd, g1, g2, hreg, Bool.not_true, List.take_length] <;> rfl) (by simp only [go_sem] <;> rfl) ?_
    refine Run.nil ?_
    refine Exec.cndS (by simp only [go_sem, hrun, g3, ra, rb, rc, rd, g1, g2, hreg, Bool.not_true, List.take_length] <;> rfl) (fun hb186 => ?_) (fun hb186 => ?_)
    · exact absurd hb186 (by simp)
    refine Exec.skipS ?_
    refine Exec.assocS ?_
    by_cases hw1 : more + sumD l < -1099511627776
    · skip
      have g5 : decide (more + sumD l < -1099511627776) = true := by simpa using hw1
      refine Exec.reg ?_
      refine Run.op (by simp only [go_sem] <;> rfl) (by simp only [go_sem] <;> rfl) ?_
      iterate 2 (refine Run.op (by simp only [go_sem, hrun, g3, ra, rb, rc, rd, g1, g2, hreg, Bool.not_true, List.take_length, g5] <;> rfl) (by simp only [go_sem] <;> rfl) ?_)
      iterate 2 (refine Run.skp (by simp only [go_sem] <;> rfl) (by simp only [go_sem] <;> rfl) ?_)
      refine Run.op (by simp only [go_sem, hrun, g3, ra, rb, rc, rd, g1, g2, hreg, Bool.not_true, List.take_length, g5] <;> rfl) (by simp only [go_sem] <;> rfl) ?_
      refine Run.nil ?_
      refine Exec.cndS (by simp only [go_sem, hrun, g3, ra, rb, rc, rd, g1, g2, hreg, Bool.not_true, List.take_length, g5] <;> rfl) (fun hb192 => ?_) (fun hb192 => ?_)
      · skip
        refine Exec.assocS ?_
        refine Exec.reg ?_
        refine Run.cal (c_law_awake) (by simp only [go_sem]) (by simp only [go_sem, hrun, g3, ra, rb, rc, rd, g1, g2, hreg, Bool.not_true, List.take_length, g5] <;> rfl) (by exact trivial) (fr0) (by simp only [go_sem, hrun, g3, ra, rb, rc, rd, g1, g2, hreg, Bool.not_true, List.take_length, g5] <;> rfl) ?_
        refine Run.op (by simp only [go_sem] <;> rfl) (by simp only [go_sem] <;> rfl) ?_
        refine Run.nil ?_
        refine Exec.retS ?_
        exact Ends.fin [] (rs := [.tmp 6]) rfl (by simp only [go_sem, hrun, g3, ra, rb, rc, rd, g1, g2, hreg, Bool.not_true, List.take_length, g5] <;> rfl) (by simp only [go_sem, hrun, g3, ra, rb, rc, rd, g1, g2, hreg, Bool.not_true, List.take_length, g5] <;> first | rfl | ((repeat' (first | with_reducible_and_instances rfl | refine st_eq ?_ ?_ ?_ | refine ret_eq ?_ | refine tup_eq ?_ | refine tm_eq ?_ ?_ | refine arr_eq ?_ | refine cells_eq ?_ | refine val_eq ?_ | refine ls_eq ?_ ?_ | refine own_eq ?_ ?_ | refine sl_eq ?_ | refine b_eq ?_ | (refine i_eq ?_; omega))); done))
      · exact absurd hb192 (by simp)
    have g5 : decide (more + sumD l < -1099511627776) = false := by simpa using hw1
    refine Exec.reg ?_
    refine Run.op (by simp only [go_sem] <;> rfl) (by simp only [go_sem] <;> rfl) ?_
    iterate 2 (refine Run.op (by simp only [go_sem, hrun, g3, ra, rb, rc, rd, g1, g2, hreg, Bool.not_true, List.take_length, g5] <;> rfl) (by simp only [go_sem] <;> rfl) ?_)
    refine Run.yes (by simp only [go_sem] <;> rfl) (by simp only [go_sem] <;> rfl) (by simp only [go_sem] <;> rfl) ?_
    refine Run.yes (by simp only [go_sem] <;> rfl) (by simp only [go_sem, hrun, g3, ra, rb, rc, rd, g1, g2, hreg, Bool.not_true, List.take_length, g5] <;> rfl) (by simp only [go_sem] <;> rfl) ?_
    refine Run.op (by simp only [go_sem, hrun, g3, ra, rb, rc, rd, g1, g2, hreg, Bool.not_true, List.take_length, g5] <;> rfl) (by simp only [go_sem] <;> rfl) ?_
    refine Run.nil ?_
    refine Exec.cndS (by simp only [go_sem, hrun, g3, ra, rb, rc, rd, g1, g2, hreg, Bool.not_true, List.take_length, g5] <;> rfl) (fun hb192 => ?_) (fun hb192 => ?_)
    · skip
      refine Exec.assocS ?_
      refine Exec.reg ?_
      refine Run.cal (c_law_awake) (by simp only [go_sem]) (by simp only [go_sem, hrun, g3, ra, rb, rc, rd, g1, g2, hreg, Bool.not_true, List.take_length, g5] <;> rfl) (by exact trivial) (fr0) (by simp only [go_sem, hrun, g3, ra, rb, rc, rd, g1, g2, hreg, Bool.not_true, List.take_length, g5] <;> rfl) ?_
      refine Run.op (by simp only [go_sem] <;> rfl) (by simp only [go_sem] <;> rfl) ?_
      refine Run.nil ?_
      refine Exec.retS ?_
      exact Ends.fin [] (rs := [.tmp 6]) rfl (by simp only [go_sem, hrun, g3, ra, rb, rc, rd, g1, g2, hreg, Bool.not_true, List.take_length, g5] <;> rfl) (by simp only [go_sem, hrun, g3, ra, rb, rc, rd, g1, g2, hreg, Bool.not_true, List.take_length, g5] <;> first | rfl | ((repeat' (first | with_reducible_and_instances rfl | refine st_eq ?_ ?_ ?_ | refine ret_eq ?_ | refine tup_eq ?_ | refine tm_eq ?_ ?_ | refine arr_eq ?_ | refine cells_eq ?_ | refine val_eq ?_ | refine ls_eq ?_ ?_ | refine own_eq ?_ ?_ | refine sl_eq ?_ | refine b_eq ?_ | (refine i_eq ?_; omega))); done))
    have hsb : ¬ more + sumD l > 1099511627776 := of_decide_eq_false hb192
    have hmb4 : ∀ n ∈ [more + sumD l], -1099511627776 ≤ n ∧ n ≤ 1099511627776 := fun n hn => by rw [List.mem_singleton.1 hn]; omega
    have ee : errD r [more + sumD l] = 0 := by
      unfold errD
      rw [if_neg (by simp [hreg]), if_neg (by simp), if_neg]
      have : [more + sumD l].all (fun n => inD n (-1099511627776) 1099511627776) = true := List.all_eq_true.2 fun n hn => inD_iff.2 (hmb4 n hn)
      simp [this]
    have re : runR r [more + sumD l] = (totalD r (l ++ [more]), (placesD r.drums.toNat (totalD r (l ++ [more]))).map figD, 0) := by rw [run_zero ee, ← b4, Int.add_comm]
    refine Exec.skipS ?_
    refine Exec.reg ?_
    refine Run.op (by simp only [go_sem, hrun, g3, ra, rb, rc, rd, g1, g2, hreg, Bool.not_true, List.take_length, g5, re] <;> rfl) (by simp only [go_sem] <;> rfl) ?_
    refine Run.op (by simp only [go_sem] <;> rfl) (by simp only [go_sem] <;> rfl) ?_
    refine Run.op (by simp only [go_sem, hrun, g3, ra, rb, rc, rd, g1, g2, hreg, Bool.not_true, List.take_length, g5, re] <;> rfl) (by simp only [go_sem] <;> rfl) ?_
    refine Run.frz 197 (by simp only [go_sem] <;> rfl) ?_
    refine Run.cal (c_drum_Run r [more + sumD l] (by simp)) (by simp only [go_sem]) (by simp only [go_sem, hrun, g3, ra, rb, rc, rd, g1, g2, hreg, Bool.not_true, List.take_length, g5, re] <;> rfl) (by exact ⟨by first | exact WkR.pure rfl | exact WkR.nil _ | exact WkR.int (by first | omega | (simp; done) | (simp; omega)), by first | exact WkR.pure rfl | exact WkR.nil _ | exact WkR.int (by first | omega | (simp; done) | (simp; omega)), trivial⟩) (fr0) (by simp only [go_sem, hrun, g3, ra, rb, rc, rd, g1, g2, hreg, Bool.not_true, List.take_length, g5, re] <;> rfl) ?_
    refine Run.op (by simp only [go_sem] <;> rfl) (by simp only [go_sem] <;> rfl) ?_
    iterate 3 (refine Run.op (by simp only [go_sem, hrun, g3, ra, rb, rc, rd, g1, g2, hreg, Bool.not_true, List.take_length, g5, re] <;> rfl) (by simp only [go_sem] <;> rfl) ?_)
    iterate 3 (refine Run.op (by simp only [go_sem] <;> rfl) (by simp only [go_sem] <;> rfl) ?_)
    refine Run.nil ?_
    refine Exec.reg ?_
    iterate 2 (refine Run.op (by simp only [go_sem] <;> rfl) (by simp only [go_sem] <;> rfl) ?_)
    iterate 2 (refine Run.op (by simp only [go_sem, hrun, g3, ra, rb, rc, rd, g1, g2, hreg, Bool.not_true, List.take_length, g5, re] <;> rfl) (by simp only [go_sem] <;> rfl) ?_)
    iterate 2 (refine Run.yes (by simp only [go_sem] <;> rfl) (by simp only [go_sem] <;> rfl) (by simp only [go_sem] <;> rfl) ?_)
    refine Run.calw (by simp only [go_sem] <;> rfl) (c_meterworksref02_Ints ((placesD r.drums.toNat (totalD r (l ++ [more]))).map figD) ((placesD r.drums.toNat (totalD r (l ++ [more]))).map figD) (by rw [List.length_map, places_len]; omega) (by rw [List.length_map, places_len]; omega)) (by simp only [go_sem]) (by simp only [go_sem, hrun, g3, ra, rb, rc, rd, g1, g2, hreg, Bool.not_true, List.take_length, g5, re] <;> rfl) (by simp only [go_sem, hrun, g3, ra, rb, rc, rd, g1, g2, hreg, Bool.not_true, List.take_length, g5, re] <;> rfl) (by exact ⟨by first | exact WkR.pure rfl | exact WkR.nil _ | exact WkR.int (by first | omega | (simp; done) | (simp; omega)), by first | exact WkR.pure rfl | exact WkR.nil _ | exact WkR.int (by first | omega | (simp; done) | (simp; omega)), trivial⟩) (fr0) (by simp only [go_sem, hrun, g3, ra, rb, rc, rd, g1, g2, hreg, Bool.not_true, List.take_length, g5, re] <;> rfl) ?_
    iterate 2 (refine Run.op (by simp only [go_sem, hrun, g3, ra, rb, rc, rd, g1, g2, hreg, Bool.not_true, List.take_length, g5, re] <;> rfl) (by simp only [go_sem] <;> rfl) ?_)
    refine Run.yes (by simp only [go_sem] <;> rfl) (by simp only [go_sem] <;> rfl) (by simp only [go_sem] <;> rfl) ?_
    refine Run.yes (by simp only [go_sem] <;> rfl) (by simp only [go_sem, hrun, g3, ra, rb, rc, rd, g1, g2, hreg, Bool.not_true, List.take_length, g5, re] <;> rfl) (by simp only [go_sem] <;> rfl) ?_
    iterate 2 (refine Run.op (by simp only [go_sem, hrun, g3, ra, rb, rc, rd, g1, g2, hreg, Bool.not_true, List.take_length, g5, re] <;> rfl) (by simp only [go_sem] <;> rfl) ?_)
    refine Run.calw (by simp only [go_sem] <;> rfl) (c_law_awake) (by simp only [go_sem]) (by simp only [go_sem, hrun, g3, ra, rb, rc, rd, g1, g2, hreg, Bool.not_true, List.take_length, g5, re] <;> rfl) (by simp only [go_sem, hrun, g3, ra, rb, rc, rd, g1, g2, hreg, Bool.not_true, List.take_length, g5, re] <;> rfl) (by exact trivial) (fr0) (by simp only [go_sem, hrun, g3, ra, rb, rc, rd, g1, g2, hreg, Bool.not_true, List.take_length, g5, re] <;> rfl) ?_
    refine Run.op (by simp only [go_sem, hrun, g3, ra, rb, rc, rd, g1, g2, hreg, Bool.not_true, List.take_length, g5, re] <;> rfl) (by simp only [go_sem] <;> rfl) ?_
    refine Run.op (by simp only [go_sem] <;> rfl) (by simp only [go_sem] <;> rfl) ?_
    refine Run.nil ?_
    exact Ends.fin [] (rs := [.tmp 6]) rfl (by simp only [go_sem, hrun, g3, ra, rb, rc, rd, g1, g2, hreg, Bool.not_true, List.take_length, g5, re] <;> rfl) (by simp only [go_sem, hrun, g3, ra, rb, rc, rd, g1, g2, hreg, Bool.not_true, List.take_length, g5, re] <;> first | rfl | ((repeat' (first | with_reducible_and_instances rfl | refine st_eq ?_ ?_ ?_ | refine ret_eq ?_ | refine tup_eq ?_ | refine tm_eq ?_ ?_ | refine arr_eq ?_ | refine cells_eq ?_ | refine val_eq ?_ | refine ls_eq ?_ ?_ | refine own_eq ?_ ?_ | refine sl_eq ?_ | refine b_eq ?_ | (refine i_eq ?_; omega))); done))
  have hrun : runR r l = (0, [], errD r l) := if_neg he
  have g0 : (errD r l != 0) = true := by simpa using he
  have g00 : (errD r l == 0) = false := by simpa using he
  refine Exec.reg ?_
  refine Run.op (by simp only [go_sem] <;> rfl) (by simp only [go_sem] <;> rfl) ?_
  iterate 2 (refine Run.op (by simp only [go_sem, hrun, g0, g00] <;> rfl) (by simp only [go_sem] <;> rfl) ?_)
  iterate 2 (refine Run.skp (by simp only [go_sem] <;> rfl) (by simp only [go_sem] <;> rfl) ?_)
  iterate 2 (refine Run.op (by simp only [go_sem, hrun, g0, g00] <;> rfl) (by simp only [go_sem] <;> rfl) ?_)
  iterate 2 (refine Run.skp (by simp only [go_sem] <;> rfl) (by simp only [go_sem] <;> rfl) ?_)
  refine Run.op (by simp only [go_sem, hrun, g0, g00] <;> rfl) (by simp only [go_sem] <;> rfl) ?_
  refine Run.nil ?_
  refine Exec.cndS (by simp only [go_sem, hrun, g0, g00] <;> rfl) (fun hb47 => ?_) (fun hb47 => ?_)
  · skip
    refine Exec.assocS ?_
    refine Exec.reg ?_
    refine Run.op (by simp only [go_sem] <;> rfl) (by simp only [go_sem] <;> rfl) ?_
    iterate 2 (refine Run.op (by simp only [go_sem, hrun, g0, g00] <;> rfl) (by simp only [go_sem] <;> rfl) ?_)
    refine Run.yes (by simp only [go_sem] <;> rfl) (by simp only [go_sem] <;> rfl) (by simp only [go_sem] <;> rfl) ?_
    iterate 2 (refine Run.yes (by simp only [go_sem] <;> rfl) (by simp only [go_sem, hrun, g0, g00] <;> rfl) (by simp only [go_sem] <;> rfl) ?_)
    refine Run.yes (by simp only [go_sem] <;> rfl) (by simp only [go_sem] <;> rfl) (by simp only [go_sem] <;> rfl) ?_
    iterate 3 (refine Run.yes (by simp only [go_sem] <;> rfl) (by simp only [go_sem, hrun, g0, g00] <;> rfl) (by simp only [go_sem] <;> rfl) ?_)
    iterate 2 (refine Run.op (by simp only [go_sem, hrun, g0, g00] <;> rfl) (by simp only [go_sem] <;> rfl) ?_)
    refine Run.calw (by simp only [go_sem] <;> rfl) (c_law_awake) (by simp only [go_sem]) (by simp only [go_sem, hrun, g0, g00] <;> rfl) (by simp only [go_sem, hrun, g0, g00] <;> rfl) (by exact trivial) (fr0) (by simp only [go_sem, hrun, g0, g00] <;> rfl) ?_
    refine Run.op (by simp only [go_sem, hrun, g0, g00] <;> rfl) (by simp only [go_sem] <;> rfl) ?_
    refine Run.op (by simp only [go_sem] <;> rfl) (by simp only [go_sem] <;> rfl) ?_
    refine Run.nil ?_
    refine Exec.retS ?_
    exact Ends.fin [] (rs := [.tmp 6]) rfl (by simp only [go_sem, hrun, g0, g00] <;> rfl) (by simp only [go_sem, hrun, g0, g00] <;> first | rfl | ((repeat' (first | with_reducible_and_instances rfl | refine st_eq ?_ ?_ ?_ | refine ret_eq ?_ | refine tup_eq ?_ | refine tm_eq ?_ ?_ | refine arr_eq ?_ | refine cells_eq ?_ | refine val_eq ?_ | refine ls_eq ?_ ?_ | refine own_eq ?_ ?_ | refine sl_eq ?_ | refine b_eq ?_ | (refine i_eq ?_; omega))); done))
  · exact absurd hb47 (by simp)

end Go.Mw

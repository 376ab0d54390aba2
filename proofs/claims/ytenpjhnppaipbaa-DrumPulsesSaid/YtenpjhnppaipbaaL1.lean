/- Contracts of the functions that the drum reaches, lent an array: runs. -/
import Derived.Test.YtenpjhnppaipbaaB10
import Derived.Test.YtenpjhnppaipbaaB3
set_option linter.unusedSimpArgs false
set_option linter.unusedVariables false
set_option linter.unusedSectionVars false
set_option linter.deprecated false
namespace Go.Mw
open Go.Proofs
open Go.Dr
set_option maxRecDepth 20000 in
/-- slices.IndexFunc[[]int,int] -/
theorem c_IndexFunc_l {g : FuncId} {ds : List D} (p : Int → Bool) (hg : canCall Try.prog g = true) (hp : ∀ s, Contract Try.prog g (.int s :: ds.map fun x => .leaf (.d x)) (.bool (p s)) []) (l : List Int) (hl : l.length ≤ 1000) : Con Try.prog 51 [.leaf (.own 900 0 l.length l.length), .leaf (.d (.fn g ds))] [(900, .arr 3 1 (l.map encInt))] (.ret (.int (idxI (l.findIdx? p))) [(900, .arr 3 1 (l.map encInt))]) := by
  refine con_of follows_mixed Try.func51 rfl (by simp only [List.length_cons, List.length_nil, Try.ntmps51]; omega) (by kernel_rfl) rfl ?_
  refine Exec.reg ?_
  refine Run.op (by simp only [go_sem] <;> rfl) (by simp only [go_sem] <;> rfl) ?_
  refine Run.nil ?_
  refine Exec.assocS ?_
  refine Exec.reg ?_
  iterate 3 (refine Run.op (by simp only [go_sem] <;> rfl) (by simp only [go_sem] <;> rfl) ?_)
  refine Run.nil ?_
  refine Exec.blk ?_
  refine Exec.forA [0, 1, 7, 8] [900] (l.length) (fun k => [.slot 8 (.int k)]) (fun k => (l.take k).any p = false) (fun k => by simp only [go_sem] <;> rfl) (by simp only [go_sem] <;> rfl) ?_ (fun k hk hX => ?_)
  · rfl
  · skip
    refine Exec.reg ?_
    refine Run.op (by simp only [go_sem] <;> rfl) (by simp only [go_sem] <;> rfl) ?_
    refine Run.nil ?_
    refine Exec.cndS (by simp only [go_sem] <;> rfl) (fun hb9 => ?_) (fun hb9 => ?_)
    · skip
      have hlt := lt_of_dec hb9
      obtain ⟨s, hs⟩ := elem_of hb9
      refine Exec.skipS ?_
      refine Exec.blk ?_
      refine Exec.reg ?_
      iterate 2 (refine Run.op (by simp only [go_sem, hs] <;> rfl) (by simp only [go_sem] <;> rfl) ?_)
      refine Run.nil ?_
      refine Exec.reg ?_
      iterate 3 (refine Run.op (by simp only [go_sem, hs] <;> rfl) (by simp only [go_sem] <;> rfl) ?_)
      refine Run.op (by simp only [go_sem, hs]; (try simp (disch := omega) only [if_pos]); (try simp only [go_sem, hs])<;> rfl) (by simp only [go_sem] <;> rfl) ?_
      refine Run.op (by simp only [go_sem, hs] <;> rfl) (by simp only [go_sem] <;> rfl) ?_
      refine Run.calw (by simp only [go_sem] <;> rfl) (hp s) (by assumption) (by simp only [go_sem, hs] <;> rfl) (by simp only [go_sem, hs] <;> rfl) (by exact ⟨by first | exact WkR.pure rfl | exact WkR.nil _ | exact WkR.int (by omega), wkr_caps _ _ _⟩) (fr0) (by simp only [go_sem, hs] <;> rfl) ?_
      refine Run.nil ?_
      refine Exec.cnd (by simp only [go_sem, hs] <;> rfl) (fun hb16 => ?_) (fun hb16 => ?_)
      · skip
        have hr := find_at hX hs hb16
        refine Exec.reg ?_
        iterate 2 (refine Run.op (by simp only [go_sem, hs, hr, idxI] <;> rfl) (by simp only [go_sem] <;> rfl) ?_)
        refine Run.nil ?_
        refine BlkK.ret ?_
        refine ForK.ret ?_
        refine BlkK.ret ?_
        exact Ends.fin [900] (rs := [.tmp 4]) rfl (by simp only [go_sem, hs, hr, idxI] <;> rfl) (by simp only [go_sem, hs, hr, idxI] <;> first | rfl | ((repeat' (first | with_reducible_and_instances rfl | refine st_eq ?_ ?_ ?_ | refine ret_eq ?_ | refine tup_eq ?_ | refine tm_eq ?_ ?_ | refine arr_eq ?_ | refine cells_eq ?_ | refine val_eq ?_ | refine ls_eq ?_ ?_ | refine own_eq ?_ ?_ | refine sl_eq ?_ | refine b_eq ?_ | (refine i_eq ?_; omega))); done))
      · skip
        refine BlkK.nrm ?_
        refine Exec.reg1 ?_
        refine Run.op (by simp only [go_sem, hs]; (try simp (disch := omega) only [IntWalk.i64_in, IntWalk.u64_in, if_neg, if_pos])<;> rfl) (by simp only [go_sem] <;> rfl) ?_
        refine Run.op (by simp only [go_sem, hs] <;> rfl) (by simp only [go_sem] <;> rfl) ?_
        refine Run.nil ?_
        refine ForK.nxt ?_ ?_ ?_
        · omega
        · exact Ghost.kp [0, 1, 7, 8] [900] (by simp only [go_sem, hs]; first | ((repeat' (first | with_reducible_and_instances rfl | refine st_eq ?_ ?_ ?_ | refine ret_eq ?_ | refine tup_eq ?_ | refine tm_eq ?_ ?_ | refine arr_eq ?_ | refine cells_eq ?_ | refine val_eq ?_ | refine ls_eq ?_ ?_ | refine own_eq ?_ ?_ | refine sl_eq ?_ | refine b_eq ?_ | (refine i_eq ?_; omega))); done) | rfl)
        · exact any_step hX hs hb16
    · skip
      have hr := find_none hX (ge_of_dec hb9)
      refine Exec.exitS ?_
      refine ForK.ext ?_
      refine BlkK.hit ?_
      refine Exec.reg ?_
      refine Run.op (by simp only [go_sem, hr, idxI] <;> rfl) (by simp only [go_sem] <;> rfl) ?_
      refine Run.nil ?_
      exact Ends.fin [900] (rs := [.tmp 4]) rfl (by simp only [go_sem, hr, idxI] <;> rfl) (by simp only [go_sem, hr, idxI] <;> first | rfl | ((repeat' (first | with_reducible_and_instances rfl | refine st_eq ?_ ?_ ?_ | refine ret_eq ?_ | refine tup_eq ?_ | refine tm_eq ?_ ?_ | refine arr_eq ?_ | refine cells_eq ?_ | refine val_eq ?_ | refine ls_eq ?_ ?_ | refine own_eq ?_ ?_ | refine sl_eq ?_ | refine b_eq ?_ | (refine i_eq ?_; omega))); done))

set_option maxRecDepth 20000 in
/-- slices.ContainsFunc[[]int,int] -/
theorem c_ContainsFunc_l {g : FuncId} {ds : List D} (p : Int → Bool) (hg : canCall Try.prog g = true) (hp : ∀ s, Contract Try.prog g (.int s :: ds.map fun x => .leaf (.d x)) (.bool (p s)) []) (l : List Int) (hl : l.length ≤ 1000) : Con Try.prog 41 [.leaf (.own 900 0 l.length l.length), .leaf (.d (.fn g ds))] [(900, .arr 3 1 (l.map encInt))] (.ret (.bool (l.any p)) [(900, .arr 3 1 (l.map encInt))]) := by
  refine con_of follows_mixed Try.func41 rfl (by simp only [List.length_cons, List.length_nil, Try.ntmps41]; omega) (by kernel_rfl) rfl ?_
  refine Exec.reg ?_
  refine Run.op (by simp only [go_sem, idxI_ge, find_any] <;> rfl) (by simp only [go_sem] <;> rfl) ?_
  refine Run.nil ?_
  refine Exec.reg ?_
  iterate 2 (refine Run.op (by simp only [go_sem, idxI_ge, find_any] <;> rfl) (by simp only [go_sem] <;> rfl) ?_)
  refine Run.lendA 900 900 (c_IndexFunc_l p hg hp l hl) (Nat.le_refl _) (by simp only [go_sem]) (by simp only [go_sem] <;> rfl) (by simp only [go_sem, idxI_ge, find_any] <;> rfl) (by simp only [go_sem, idxI_ge, find_any] <;> rfl) (by exact ⟨by first | exact WkR.pure rfl | exact WkR.of rfl rfl | exact WkR.nil _ | exact WkR.int (by first | omega | (simp; done) | (simp; omega)), by first | exact WkR.pure rfl | exact WkR.of rfl rfl | exact WkR.nil _ | exact WkR.int (by first | omega | (simp; done) | (simp; omega)), trivial⟩) (by simp only [go_sem, idxI_ge, find_any] <;> rfl) ?_
  iterate 2 (refine Run.op (by simp only [go_sem, idxI_ge, find_any] <;> rfl) (by simp only [go_sem] <;> rfl) ?_)
  refine Run.nil ?_
  exact Ends.fin [900] (rs := [.tmp 4]) rfl (by simp only [go_sem, idxI_ge, find_any] <;> rfl) (by simp only [go_sem, idxI_ge, find_any] <;> first | rfl | ((repeat' (first | with_reducible_and_instances rfl | refine st_eq ?_ ?_ ?_ | refine ret_eq ?_ | refine tup_eq ?_ | refine tm_eq ?_ ?_ | refine arr_eq ?_ | refine cells_eq ?_ | refine val_eq ?_ | refine ls_eq ?_ ?_ | refine own_eq ?_ ?_ | refine sl_eq ?_ | refine b_eq ?_ | (refine i_eq ?_; omega))); done))

set_option maxRecDepth 20000 in
/-- meterworks/drum.check -/
theorem c_check_l (r : Reg) (l : List Int) (hl : l.length ≤ 1000) : Con Try.prog 34 [regV r, .leaf (.own 900 0 l.length l.length)] [(900, .arr 3 1 (l.map encInt))] (.ret (.int (errD r l)) [(900, .arr 3 1 (l.map encInt))]) := by
  refine con_of follows_mixed Try.func34 rfl (by simp only [List.length_cons, List.length_nil, Try.ntmps34]; omega) (by kernel_rfl) rfl ?_
  refine Exec.reg ?_
  iterate 2 (refine Run.op (by simp only [go_sem, errD, if_false, if_true] <;> rfl) (by simp only [go_sem] <;> rfl) ?_)
  refine Run.nil ?_
  refine Exec.blk ?_
  refine Exec.reg ?_
  refine Run.op (by simp only [go_sem, errD, if_false, if_true] <;> rfl) (by simp only [go_sem] <;> rfl) ?_
  refine Run.cal (c_drum_isRegister r) (by simp only [go_sem]) (by simp only [go_sem, errD, if_false, if_true] <;> rfl) (by exact ⟨by first | exact WkR.pure rfl | exact WkR.nil _ | exact WkR.int (by first | omega | (simp; done) | (simp; omega)), trivial⟩) (fr0) (by simp only [go_sem, errD, if_false, if_true] <;> rfl) ?_
  iterate 2 (refine Run.op (by simp only [go_sem, errD, if_false, if_true] <;> rfl) (by simp only [go_sem] <;> rfl) ?_)
  refine Run.nil ?_
  refine Exec.cnd (by simp only [go_sem, errD, if_false, if_true] <;> rfl) (fun hb5 => ?_) (fun hb5 => ?_)
  · skip
    have hreg : regB r = false := by simpa using hb5
    refine Exec.reg ?_
    refine Run.op (by simp only [go_sem, errD, if_false, if_true, hreg] <;> rfl) (by simp only [go_sem] <;> rfl) ?_
    refine Run.nil ?_
    refine BlkK.ret ?_
    exact Ends.fin [900] (rs := [.tmp 4]) rfl (by simp only [go_sem, errD, if_false, if_true, hreg] <;> rfl) (by simp only [go_sem, errD, if_false, if_true, hreg] <;> first | rfl | ((repeat' (first | with_reducible_and_instances rfl | refine st_eq ?_ ?_ ?_ | refine ret_eq ?_ | refine tup_eq ?_ | refine tm_eq ?_ ?_ | refine arr_eq ?_ | refine cells_eq ?_ | refine val_eq ?_ | refine ls_eq ?_ ?_ | refine own_eq ?_ ?_ | refine sl_eq ?_ | refine b_eq ?_ | (refine i_eq ?_; omega))); done))
  · skip
    have hreg : regB r = true := by simpa using hb5
    have hrf : (regB r = false) = False := by simp [hreg]
    refine Exec.reg ?_
    iterate 4 (refine Run.op (by simp only [go_sem, errD, if_false, if_true, hrf] <;> rfl) (by simp only [go_sem] <;> rfl) ?_)
    refine Run.nil ?_
    refine Exec.cnd (by simp only [go_sem, errD, if_false, if_true, hrf] <;> rfl) (fun hb9 => ?_) (fun hb9 => ?_)
    · skip
      have hlen : ((32 : Int) < (l.length : Int)) = True := by have := of_decide_eq_true hb9; simp; omega
      refine Exec.reg ?_
      refine Run.op (by simp only [go_sem, errD, if_false, if_true, hrf, hlen] <;> rfl) (by simp only [go_sem] <;> rfl) ?_
      refine Run.nil ?_
      refine BlkK.ret ?_
      exact Ends.fin [900] (rs := [.tmp 4]) rfl (by simp only [go_sem, errD, if_false, if_true, hrf, hlen] <;> rfl) (by simp only [go_sem, errD, if_false, if_true, hrf, hlen] <;> first | rfl | ((repeat' (first | with_reducible_and_instances rfl | refine st_eq ?_ ?_ ?_ | refine ret_eq ?_ | refine tup_eq ?_ | refine tm_eq ?_ ?_ | refine arr_eq ?_ | refine cells_eq ?_ | refine val_eq ?_ | refine ls_eq ?_ ?_ | refine own_eq ?_ ?_ | refine sl_eq ?_ | refine b_eq ?_ | (refine i_eq ?_; omega))); done))
    · skip
      have hlen : ((32 : Int) < (l.length : Int)) = False := by have := of_decide_eq_false hb9; simp; omega
      have hal := any_all (p := fun s => inD s (-1099511627776) 1099511627776) l
      refine Exec.reg ?_
      refine Run.op (by simp only [go_sem, errD, if_false, if_true, hrf, hlen, hal] <;> rfl) (by simp only [go_sem] <;> rfl) ?_
      refine Run.lendA 900 900 (c_ContainsFunc_l (fun s => !inD s (-1099511627776) 1099511627776) (ds := []) (by simp only [go_sem]) c_check_1 l hl) (Nat.le_refl _) (by simp only [go_sem]) (by simp only [go_sem] <;> rfl) (by simp only [go_sem, errD, if_false, if_true, hrf, hlen, hal] <;> rfl) (by simp only [go_sem, errD, if_false, if_true, hrf, hlen, hal] <;> rfl) (by exact ⟨by first | exact WkR.pure rfl | exact WkR.of rfl rfl | exact WkR.nil _ | exact WkR.int (by first | omega | (simp; done) | (simp; omega)), by first | exact WkR.pure rfl | exact WkR.of rfl rfl | exact WkR.nil _ | exact WkR.int (by first | omega | (simp; done) | (simp; omega)), trivial⟩) (by simp only [go_sem, errD, if_false, if_true, hrf, hlen, hal] <;> rfl) ?_
      refine Run.op (by simp only [go_sem, errD, if_false, if_true, hrf, hlen, hal] <;> rfl) (by simp only [go_sem] <;> rfl) ?_
      refine Run.nil ?_
      refine Exec.cnd (by simp only [go_sem, errD, if_false, if_true, hrf, hlen, hal] <;> rfl) (fun hb13 => ?_) (fun hb13 => ?_)
      · skip
        have ha : l.all (fun n => inD n (-1099511627776) 1099511627776) = false := by simpa using hb13
        refine Exec.reg ?_
        refine Run.op (by simp only [go_sem, errD, if_false, if_true, hrf, hlen, hal, ha] <;> rfl) (by simp only [go_sem] <;> rfl) ?_
        refine Run.nil ?_
        refine BlkK.ret ?_
        exact Ends.fin [900] (rs := [.tmp 4]) rfl (by simp only [go_sem, errD, if_false, if_true, hrf, hlen, hal, ha] <;> rfl) (by simp only [go_sem, errD, if_false, if_true, hrf, hlen, hal, ha] <;> first | rfl | ((repeat' (first | with_reducible_and_instances rfl | refine st_eq ?_ ?_ ?_ | refine ret_eq ?_ | refine tup_eq ?_ | refine tm_eq ?_ ?_ | refine arr_eq ?_ | refine cells_eq ?_ | refine val_eq ?_ | refine ls_eq ?_ ?_ | refine own_eq ?_ ?_ | refine sl_eq ?_ | refine b_eq ?_ | (refine i_eq ?_; omega))); done))
      · skip
        have ha : (l.all (fun n => inD n (-1099511627776) 1099511627776) = false) = False := by simpa using hb13
        refine BlkK.nrm ?_
        refine Exec.reg ?_
        refine Run.op (by simp only [go_sem, errD, if_false, if_true, hrf, hlen, hal, ha] <;> rfl) (by simp only [go_sem] <;> rfl) ?_
        refine Run.nil ?_
        exact Ends.fin [900] (rs := [.tmp 4]) rfl (by simp only [go_sem, errD, if_false, if_true, hrf, hlen, hal, ha] <;> rfl) (by simp only [go_sem, errD, if_false, if_true, hrf, hlen, hal, ha] <;> first | rfl | ((repeat' (first | with_reducible_and_instances rfl | refine st_eq ?_ ?_ ?_ | refine ret_eq ?_ | refine tup_eq ?_ | refine tm_eq ?_ ?_ | refine arr_eq ?_ | refine cells_eq ?_ | refine val_eq ?_ | refine ls_eq ?_ ?_ | refine own_eq ?_ ?_ | refine sl_eq ?_ | refine b_eq ?_ | (refine i_eq ?_; omega))); done))

set_option maxRecDepth 20000 in
set_option maxHeartbeats 2000000 in
/-- meterworks/drum.Run -/
theorem c_Run_l (r : Reg) (l : List Int) (hl : l.length ≤ 1000) : Con Try.prog 12 [regV r, .leaf (.own 900 0 l.length l.length)] [(900, .arr 3 1 (l.map encInt))] (.ret (runV (runR r l)) [(900, .arr 3 1 (l.map encInt))]) := by
  refine con_of follows_mixed Try.func12 rfl (by simp only [List.length_cons, List.length_nil, Try.ntmps12]; omega) (by kernel_rfl) rfl ?_
  refine Exec.reg ?_
  iterate 4 (refine Run.op (by simp only [go_sem] <;> rfl) (by simp only [go_sem] <;> rfl) ?_)
  refine Run.nil ?_
  refine Exec.assocS ?_
  refine Exec.reg ?_
  iterate 2 (refine Run.op (by simp only [go_sem] <;> rfl) (by simp only [go_sem] <;> rfl) ?_)
  refine Run.lendA 900 900 (c_check_l r l hl) (Nat.le_refl _) (by simp only [go_sem]) (by simp only [go_sem] <;> rfl) (by simp only [go_sem] <;> rfl) (by simp only [go_sem] <;> rfl) (by exact ⟨by first | exact WkR.pure rfl | exact WkR.of rfl rfl | exact WkR.nil _ | exact WkR.int (by first | omega | (simp; done) | (simp; omega)), by first | exact WkR.pure rfl | exact WkR.of rfl rfl | exact WkR.nil _ | exact WkR.int (by first | omega | (simp; done) | (simp; omega)), trivial⟩) (by simp only [go_sem] <;> rfl) ?_
  refine Run.op (by simp only [go_sem] <;> rfl) (by simp only [go_sem] <;> rfl) ?_
  refine Run.nil ?_
  refine Exec.assocS ?_
  refine Exec.reg ?_
  iterate 2 (refine Run.op (by simp only [go_sem] <;> rfl) (by simp only [go_sem] <;> rfl) ?_)
  refine Run.nil ?_
  refine Exec.cndS (by simp only [go_sem] <;> rfl) (fun hb13 => ?_) (fun hb13 => ?_)
  · skip
    have he : ¬ errD r l = 0 := by simpa using hb13
    have hrun : runR r l = (0, [], errD r l) := if_neg he
    refine Exec.assocS ?_
    refine Exec.reg ?_
    iterate 4 (refine Run.op (by simp only [go_sem, hrun] <;> rfl) (by simp only [go_sem] <;> rfl) ?_)
    refine Run.nild 5 1 (by simp only [go_sem] <;> rfl) (by simp only [go_sem] <;> rfl) ?_
    refine Run.nil ?_
    refine Exec.retS ?_
    exact Ends.fin [900] (rs := [.tmp 4, .tmp 5, .tmp 6]) rfl (by simp only [go_sem, hrun] <;> rfl) (by simp only [go_sem, hrun] <;> first | rfl | ((repeat' (first | with_reducible_and_instances rfl | refine st_eq ?_ ?_ ?_ | refine ret_eq ?_ | refine tup_eq ?_ | refine tm_eq ?_ ?_ | refine arr_eq ?_ | refine cells_eq ?_ | refine val_eq ?_ | refine ls_eq ?_ ?_ | refine own_eq ?_ ?_ | refine sl_eq ?_ | refine b_eq ?_ | (refine i_eq ?_; omega))); done))
  · skip
    have he : errD r l = 0 := by simpa using hb13
    obtain ⟨hreg, hl32, hlb⟩ := err_zero he
    have hq := reg_iff.1 hreg
    have htb := turn_bnd hq.1.2
    have htot := total_bnd hreg l
    have hrun := run_zero he
    refine Exec.skipS ?_
    refine Exec.reg ?_
    iterate 3 (refine Run.op (by simp only [go_sem, hrun, he] <;> rfl) (by simp only [go_sem] <;> rfl) ?_)
    refine Run.nil ?_
    refine Exec.assocS ?_
    refine Exec.reg ?_
    iterate 3 (refine Run.op (by simp only [go_sem, hrun, he] <;> rfl) (by simp only [go_sem] <;> rfl) ?_)
    refine Run.nil ?_
    refine Exec.blk ?_
    refine Exec.forA [2, 4, 17, 18, 19] [2, 900] (l.length) (fun k => [.slot 19 (.int k), .slot 4 (.int (r.start + sumD (l.take k)))]) (fun _ => True) (fun k => by simp only [go_sem] <;> rfl) (by simp only [go_sem, hrun, he, List.take_zero, sumD, Int.add_zero, Int.natCast_zero] <;> rfl) ?_ (fun k hk hX => ?_)
    · trivial
    · skip
      refine Exec.reg ?_
      refine Run.op (by simp only [go_sem, hrun, he] <;> rfl) (by simp only [go_sem] <;> rfl) ?_
      refine Run.nil ?_
      refine Exec.cndS (by simp only [go_sem, hrun, he] <;> rfl) (fun hb20 => ?_) (fun hb20 => ?_)
      · skip
        have hlt := lt_of_dec hb20
        obtain ⟨s, hs⟩ := elem_of hb20
        have hs1 : sumD (l.take (k + 1)) = sumD (l.take k) + s := by rw [take_succ_snoc hs, sum_snoc]
        have hb1 := sum_bnd (l := l.take k) fun n hn => hlb n (List.mem_of_mem_take hn)
        have hb2 := hlb s (List.mem_of_getElem? hs)
        have hb3 : (l.take k).length ≤ 32 := by rw [List.length_take]; omega
        refine Exec.skipS ?_
        refine Exec.blk ?_
        refine Exec.reg ?_
        refine Run.op (by simp only [go_sem, hrun, he, hs, hs1]; (try simp (disch := omega) only [if_pos]); (try simp only [go_sem, hrun, he, hs, hs1])<;> rfl) (by simp only [go_sem] <;> rfl) ?_
        iterate 2 (refine Run.op (by simp only [go_sem, hrun, he, hs, hs1] <;> rfl) (by simp only [go_sem] <;> rfl) ?_)
        refine Run.nil ?_
        refine Exec.reg1 ?_
        iterate 2 (refine Run.op (by simp only [go_sem, hrun, he, hs, hs1] <;> rfl) (by simp only [go_sem] <;> rfl) ?_)
        refine Run.op (by simp only [go_sem, hrun, he, hs, hs1]; (try simp (disch := omega) only [IntWalk.i64_in, IntWalk.u64_in, if_neg, if_pos])<;> rfl) (by simp only [go_sem] <;> rfl) ?_
        refine Run.op (by simp only [go_sem, hrun, he, hs, hs1] <;> rfl) (by simp only [go_sem] <;> rfl) ?_
        refine Run.nil ?_
        refine BlkK.nrm ?_
        refine Exec.reg1 ?_
        refine Run.op (by simp only [go_sem, hrun, he, hs, hs1]; (try simp (disch := omega) only [IntWalk.i64_in, IntWalk.u64_in, if_neg, if_pos])<;> rfl) (by simp only [go_sem] <;> rfl) ?_
        refine Run.op (by simp only [go_sem, hrun, he, hs, hs1] <;> rfl) (by simp only [go_sem] <;> rfl) ?_
        refine Run.nil ?_
        refine ForK.nxt ?_ ?_ ?_
        · omega
        · exact Ghost.kp [2, 4, 17, 18, 19] [2, 900] (by simp only [go_sem, hrun, he, hs, hs1]; first | ((repeat' (first | with_reducible_and_instances rfl | refine st_eq ?_ ?_ ?_ | refine ret_eq ?_ | refine tup_eq ?_ | refine tm_eq ?_ ?_ | refine arr_eq ?_ | refine cells_eq ?_ | refine val_eq ?_ | refine ls_eq ?_ ?_ | refine own_eq ?_ ?_ | refine sl_eq ?_ | refine b_eq ?_ | (refine i_eq ?_; omega))); (all_goals (first | omega | (simp; omega)))) | rfl)
        · trivial
      · skip
        have hke : k = l.length := by have := ge_of_dec hb20; omega
        subst hke
        have hb1 := sum_bnd hlb
        have e : (r.start + sumD l) % turnD r.drums = totalD r l := rfl
        refine Exec.exitS ?_
        refine ForK.ext ?_
        refine BlkK.hit ?_
        refine Exec.reg ?_
        iterate 3 (refine Run.op (by simp only [go_sem, hrun, he, List.take_length, e] <;> rfl) (by simp only [go_sem] <;> rfl) ?_)
        refine Run.cal (c_drum_turnOf r.drums (by omega)) (by simp only [go_sem]) (by simp only [go_sem, hrun, he, List.take_length, e] <;> rfl) (by exact ⟨by first | exact WkR.pure rfl | exact WkR.nil _ | exact WkR.int (by first | omega | (simp; done) | (simp; omega)), trivial⟩) (fr0) (by simp only [go_sem, hrun, he, List.take_length, e] <;> rfl) ?_
        refine Run.cal (c_drum_modulo (r.start + sumD l) (turnD r.drums) (by omega) (by omega)) (by simp only [go_sem]) (by simp only [go_sem, hrun, he, List.take_length, e] <;> rfl) (by exact ⟨by first | exact WkR.pure rfl | exact WkR.nil _ | exact WkR.int (by first | omega | (simp; done) | (simp; omega)), by first | exact WkR.pure rfl | exact WkR.nil _ | exact WkR.int (by first | omega | (simp; done) | (simp; omega)), trivial⟩) (fr0) (by simp only [go_sem, hrun, he, List.take_length, e] <;> rfl) ?_
        refine Run.op (by simp only [go_sem, hrun, he, List.take_length, e] <;> rfl) (by simp only [go_sem] <;> rfl) ?_
        refine Run.nil ?_
        refine Exec.reg ?_
        iterate 4 (refine Run.op (by simp only [go_sem, hrun, he, List.take_length, e] <;> rfl) (by simp only [go_sem] <;> rfl) ?_)
        refine Run.cal (c_drum_list r.drums (by omega) (totalD r l) (by omega) (ds := []) figD (by simp only [go_sem]) (fun p hp => c_drum_place_figure p hp)) (by simp only [go_sem]) (by simp only [go_sem, hrun, he, List.take_length, e] <;> rfl) (by exact ⟨by first | exact WkR.pure rfl | exact WkR.nil _ | exact WkR.int (by first | omega | (simp; done) | (simp; omega)), by first | exact WkR.pure rfl | exact WkR.nil _ | exact WkR.int (by first | omega | (simp; done) | (simp; omega)), by first | exact WkR.pure rfl | exact WkR.nil _ | exact WkR.int (by first | omega | (simp; done) | (simp; omega)), trivial⟩) (fr0) (by simp only [go_sem, hrun, he, List.take_length, e] <;> rfl) ?_
        iterate 3 (refine Run.op (by simp only [go_sem, hrun, he, List.take_length, e] <;> rfl) (by simp only [go_sem] <;> rfl) ?_)
        refine Run.nil ?_
        exact Ends.fin [900] (rs := [.tmp 4, .tmp 5, .tmp 6]) rfl (by simp only [go_sem, hrun, he, List.take_length, e] <;> rfl) (by simp only [go_sem, hrun, he, List.take_length, e] <;> first | rfl | ((repeat' (first | with_reducible_and_instances rfl | refine st_eq ?_ ?_ ?_ | refine ret_eq ?_ | refine tup_eq ?_ | refine tm_eq ?_ ?_ | refine arr_eq ?_ | refine cells_eq ?_ | refine val_eq ?_ | refine ls_eq ?_ ?_ | refine own_eq ?_ ?_ | refine sl_eq ?_ | refine b_eq ?_ | (refine i_eq ?_; omega))); done))

set_option maxRecDepth 20000 in
set_option maxHeartbeats 8000000 in
/-- meterworks/drum.Pulses -/
theorem c_Pulses_l (r : Reg) (l : List Int) (at_ : Int) (hl : l.length ≤ 1000) : Con Try.prog 14 [regV r, .leaf (.own 900 0 l.length l.length), .int at_] [(900, .arr 3 1 (l.map encInt))] (.ret (tupI [(pulsesR r l at_).1, (pulsesR r l at_).2.1, (pulsesR r l at_).2.2]) [(900, .arr 3 1 (l.map encInt))]) := by
  refine con_of follows_mixed Try.func14 rfl (by simp only [List.length_cons, List.length_nil, Try.ntmps14]; omega) (by kernel_rfl) rfl ?_
  refine Exec.reg ?_
  iterate 4 (refine Run.op (by simp only [go_sem] <;> rfl) (by simp only [go_sem] <;> rfl) ?_)
  refine Run.nil ?_
  refine Exec.reg ?_
  iterate 2 (refine Run.op (by simp only [go_sem] <;> rfl) (by simp only [go_sem] <;> rfl) ?_)
  refine Run.lendA 900 900 (c_check_l r l hl) (Nat.le_refl _) (by simp only [go_sem]) (by simp only [go_sem] <;> rfl) (by simp only [go_sem] <;> rfl) (by simp only [go_sem] <;> rfl) (by exact ⟨by first | exact WkR.pure rfl | exact WkR.of rfl rfl | exact WkR.nil _ | exact WkR.int (by first | omega | (simp; done) | (simp; omega)), by first | exact WkR.pure rfl | exact WkR.of rfl rfl | exact WkR.nil _ | exact WkR.int (by first | omega | (simp; done) | (simp; omega)), trivial⟩) (by simp only [go_sem] <;> rfl) ?_
  refine Run.op (by simp only [go_sem] <;> rfl) (by simp only [go_sem] <;> rfl) ?_
  refine Run.nil ?_
  refine Exec.blk ?_
  refine Exec.reg ?_
  iterate 3 (refine Run.op (by simp only [go_sem] <;> rfl) (by simp only [go_sem] <;> rfl) ?_)
  refine Run.nil ?_
  refine Exec.cnd (by simp only [go_sem] <;> rfl) (fun hb21 => ?_) (fun hb21 => ?_)
  · skip
    have he : ¬ errD r l = 0 := by simpa using hb21
    have hr : pulsesR r l at_ = (0, 0, errD r l) := if_neg he
    refine Exec.reg ?_
    iterate 4 (refine Run.op (by simp only [go_sem, hr] <;> rfl) (by simp only [go_sem] <;> rfl) ?_)
    refine Run.nil ?_
    refine BlkK.ret ?_
    exact Ends.fin [900] (rs := [.tmp 6, .tmp 7, .tmp 8]) rfl (by simp only [go_sem, hr] <;> rfl) (by simp only [go_sem, hr] <;> first | rfl | ((repeat' (first | with_reducible_and_instances rfl | refine st_eq ?_ ?_ ?_ | refine ret_eq ?_ | refine tup_eq ?_ | refine tm_eq ?_ ?_ | refine arr_eq ?_ | refine cells_eq ?_ | refine val_eq ?_ | refine ls_eq ?_ ?_ | refine own_eq ?_ ?_ | refine sl_eq ?_ | refine b_eq ?_ | (refine i_eq ?_; omega))); done))
  · skip
    have he : errD r l = 0 := by simpa using hb21
    obtain ⟨hreg, hl32, hlb⟩ := err_zero he
    have hq := reg_iff.1 hreg
    have htb := turn_bnd hq.1.2
    refine Exec.reg ?_
    refine Run.op (by simp only [go_sem] <;> rfl) (by simp only [go_sem] <;> rfl) ?_
    refine Run.cal (c_drum_within _ _ _) (by simp only [go_sem]) (by simp only [go_sem] <;> rfl) (by exact ⟨by first | exact WkR.pure rfl | exact WkR.nil _ | exact WkR.int (by first | omega | (simp; done) | (simp; omega)), by first | exact WkR.pure rfl | exact WkR.nil _ | exact WkR.int (by first | omega | (simp; done) | (simp; omega)), by first | exact WkR.pure rfl | exact WkR.nil _ | exact WkR.int (by first | omega | (simp; done) | (simp; omega)), trivial⟩) (fr0) (by simp only [go_sem] <;> rfl) ?_
    iterate 2 (refine Run.op (by simp only [go_sem] <;> rfl) (by simp only [go_sem] <;> rfl) ?_)
    refine Run.nil ?_
    refine Exec.cnd (by simp only [go_sem] <;> rfl) (fun hb25 => ?_) (fun hb25 => ?_)
    · skip
      have hin : inD at_ 0 9999 = false := by simpa using hb25
      have hr : pulsesR r l at_ = (0, 0, 2) := by unfold pulsesR; rw [if_pos he, if_neg (by simp [hin])]
      refine Exec.reg ?_
      iterate 3 (refine Run.op (by simp only [go_sem, hr] <;> rfl) (by simp only [go_sem] <;> rfl) ?_)
      refine Run.nil ?_
      refine BlkK.ret ?_
      exact Ends.fin [900] (rs := [.tmp 6, .tmp 7, .tmp 8]) rfl (by simp only [go_sem, hr] <;> rfl) (by simp only [go_sem, hr] <;> first | rfl | ((repeat' (first | with_reducible_and_instances rfl | refine st_eq ?_ ?_ ?_ | refine ret_eq ?_ | refine tup_eq ?_ | refine tm_eq ?_ ?_ | refine arr_eq ?_ | refine cells_eq ?_ | refine val_eq ?_ | refine ls_eq ?_ ?_ | refine own_eq ?_ ?_ | refine sl_eq ?_ | refine b_eq ?_ | (refine i_eq ?_; omega))); done))
    · skip
      have hin : inD at_ 0 9999 = true := by simpa using hb25
      have hat := inD_iff.1 hin
      have hr : pulsesR r l at_ = ((pS at_ r.start l).ct, (pS at_ r.start l).all, 0) := by unfold pulsesR; rw [if_pos he, if_pos hin]
      refine BlkK.nrm ?_
      refine Exec.reg ?_
      iterate 3 (refine Run.op (by simp only [go_sem, hr] <;> rfl) (by simp only [go_sem] <;> rfl) ?_)
      refine Run.nil ?_
      refine Exec.reg ?_
      refine Run.op (by simp only [go_sem, hr] <;> rfl) (by simp only [go_sem] <;> rfl) ?_
      refine Run.op (by simp only [go_sem, hr]; (try simp (disch := omega) only [IntWalk.i64_in, IntWalk.u64_in, if_neg, if_pos])<;> rfl) (by simp only [go_sem] <;> rfl) ?_
      refine Run.op (by simp only [go_sem, hr] <;> rfl) (by simp only [go_sem] <;> rfl) ?_
      refine Run.nil ?_
      refine Exec.assocS ?_
      refine Exec.reg ?_
      iterate 3 (refine Run.op (by simp only [go_sem, hr] <;> rfl) (by simp only [go_sem] <;> rfl) ?_)
      refine Run.nil ?_
      refine Exec.blk ?_
      refine Exec.forA [2, 6, 7, 9, 10, 33, 34, 35] [3, 900] (l.length) (fun k => [.slot 35 (.int k), .slot 9 (.int (pS at_ r.start (l.take k)).now), .slot 10 (.int (lastI' at_ (pS at_ r.start (l.take k)))), .slot 6 (.int (pS at_ r.start (l.take k)).ct), .slot 7 (.int (pS at_ r.start (l.take k)).all)]) (fun _ => True) (fun k => by simp only [go_sem] <;> rfl) (by simp only [go_sem, List.take_zero, pS_nil, lastI', Int.natCast_zero] <;> rfl) ?_ (fun k hk hX => ?_)
      · trivial
      · skip
        refine Exec.reg ?_
        refine Run.op (by simp only [go_sem, hr] <;> rfl) (by simp only [go_sem] <;> rfl) ?_
        refine Run.nil ?_
        refine Exec.cndS (by simp only [go_sem, hr] <;> rfl) (fun hb36 => ?_) (fun hb36 => ?_)
        · skip
          have hlt := lt_of_dec hb36
          obtain ⟨s, hs⟩ := elem_of hb36
          have hsb := hlb s (List.mem_of_getElem? hs)
          have hst := pS_snocK (at_ := at_) (start := r.start) hs
          have hpb := pb_all (start := r.start) (at_ := at_) hlb k (by omega)
          obtain ⟨p, hp⟩ : ∃ p, (pS at_ r.start (l.take k)) = p := ⟨_, rfl⟩
          rw [hp] at hst hpb
          obtain ⟨q1, q2, q3, q4, q5⟩ := hpb
          simp only [hp]
          obtain ⟨lo, hlo⟩ : ∃ x, lowI p.now s = x := ⟨_, rfl⟩
          obtain ⟨hi, hhi⟩ : ∃ x, highI p.now s = x := ⟨_, rfl⟩
          have hlob : -100000000000000 ≤ lo ∧ lo ≤ 100000000000000 := by rw [← hlo]; unfold lowI; split <;> omega
          have hhib : -100000000000000 ≤ hi ∧ hi ≤ 100000000000000 := by rw [← hhi]; unfold highI; split <;> omega
          have eL : lo + (at_ - lo) % 10000 = leastI at_ lo := rfl
          have eH : hi - (hi - at_) % 10000 = mostI at_ hi := rfl
          have bL := least_ge at_ lo
          have bH := most_le at_ hi
          have bL2 : leastI at_ lo ≤ lo + 10000 := by unfold leastI; omega
          have bH2 : hi - 10000 ≤ mostI at_ hi := by unfold mostI; omega
          refine Exec.skipS ?_
          refine Exec.blk ?_
          refine Exec.reg ?_
          refine Run.op (by simp only [go_sem, hr, hs, hst, eL, eH]; (try simp (disch := omega) only [if_pos]); (try simp only [go_sem, hr, hs, hst, eL, eH])<;> rfl) (by simp only [go_sem] <;> rfl) ?_
          iterate 2 (refine Run.op (by simp only [go_sem, hr, hs, hst, eL, eH] <;> rfl) (by simp only [go_sem] <;> rfl) ?_)
          refine Run.nil ?_
          refine Exec.reg ?_
          refine Run.op (by simp only [go_sem, hr, hs, hst, eL, eH] <;> rfl) (by simp only [go_sem] <;> rfl) ?_
          refine Run.op (by simp only [go_sem, hr, hs, hst, eL, eH]; (try simp (disch := omega) only [IntWalk.i64_in, IntWalk.u64_in, if_neg, if_pos])<;> rfl) (by simp only [go_sem] <;> rfl) ?_
          iterate 2 (refine Run.op (by simp only [go_sem, hr, hs, hst, eL, eH] <;> rfl) (by simp only [go_sem] <;> rfl) ?_)
          refine Run.op (by simp only [go_sem, hr, hs, hst, eL, eH]; (try simp (disch := omega) only [IntWalk.i64_in, IntWalk.u64_in, if_neg, if_pos])<;> rfl) (by simp only [go_sem] <;> rfl) ?_
          iterate 2 (refine Run.op (by simp only [go_sem, hr, hs, hst, eL, eH] <;> rfl) (by simp only [go_sem] <;> rfl) ?_)
          refine Run.nil ?_
          refine Exec.assocS ?_
          refine Exec.reg ?_
          iterate 2 (refine Run.op (by simp only [go_sem, hr, hs, hst, eL, eH] <;> rfl) (by simp only [go_sem] <;> rfl) ?_)
          refine Run.nil ?_
          refine Exec.joinA [1, 2, 3, 6, 7, 9, 10, 12, 13, 14, 33, 34, 35] [3, 900] (fun (u1 : Unit) => [.slot 13 (.int lo), .slot 14 (.int hi)]) (fun (u1 : Unit) => True) (fun u1 => by simp only [go_sem] <;> rfl) ?_ (fun u1 hj => ?_)
          · skip
            refine Exec.cnd (by simp only [go_sem, hr, hs, hst, eL, eH] <;> rfl) (fun hb45 => ?_) (fun hb45 => ?_)
            · skip
              have hn : s < 0 := of_decide_eq_true hb45
              have e1 : p.now + s = lo := by rw [← hlo]; exact (if_pos hn).symm
              have e2 : p.now - 1 = hi := by rw [← hhi]; exact (if_pos hn).symm
              refine Exec.reg1 ?_
              iterate 2 (refine Run.op (by simp only [go_sem, hr, hs, hst, eL, eH, e1, e2] <;> rfl) (by simp only [go_sem] <;> rfl) ?_)
              refine Run.op (by simp only [go_sem, hr, hs, hst, eL, eH, e1, e2]; (try simp (disch := omega) only [IntWalk.i64_in, IntWalk.u64_in, if_neg, if_pos])<;> rfl) (by simp only [go_sem] <;> rfl) ?_
              refine Run.op (by simp only [go_sem, hr, hs, hst, eL, eH, e1, e2] <;> rfl) (by simp only [go_sem] <;> rfl) ?_
              refine Run.op (by simp only [go_sem, hr, hs, hst, eL, eH, e1, e2]; (try simp (disch := omega) only [IntWalk.i64_in, IntWalk.u64_in, if_neg, if_pos])<;> rfl) (by simp only [go_sem] <;> rfl) ?_
              iterate 2 (refine Run.op (by simp only [go_sem, hr, hs, hst, eL, eH, e1, e2] <;> rfl) (by simp only [go_sem] <;> rfl) ?_)
              refine Run.nil ?_
              refine JoinK.nrm (()) ?_ ?_
              · trivial
              · exact Ghost.kp [1, 2, 3, 6, 7, 9, 10, 12, 13, 14, 33, 34, 35] [3, 900] (by simp only [go_sem, hr, hs, hst, eL, eH, e1, e2]; first | ((repeat' (first | with_reducible_and_instances rfl | refine st_eq ?_ ?_ ?_ | refine ret_eq ?_ | refine tup_eq ?_ | refine tm_eq ?_ ?_ | refine arr_eq ?_ | refine cells_eq ?_ | refine val_eq ?_ | refine ls_eq ?_ ?_ | refine own_eq ?_ ?_ | refine sl_eq ?_ | refine b_eq ?_ | (refine i_eq ?_; omega))); done) | rfl)
            · skip
              have hn : ¬ s < 0 := of_decide_eq_false hb45
              have e1 : p.now + 1 = lo := by rw [← hlo]; exact (if_neg hn).symm
              have e2 : p.now + s = hi := by rw [← hhi]; exact (if_neg hn).symm
              refine JoinK.nrm (()) ?_ ?_
              · trivial
              · exact Ghost.kp [1, 2, 3, 6, 7, 9, 10, 12, 13, 14, 33, 34, 35] [3, 900] (by simp only [go_sem, hr, hs, hst, eL, eH, e1, e2]; first | ((repeat' (first | with_reducible_and_instances rfl | refine st_eq ?_ ?_ ?_ | refine ret_eq ?_ | refine tup_eq ?_ | refine tm_eq ?_ ?_ | refine arr_eq ?_ | refine cells_eq ?_ | refine val_eq ?_ | refine ls_eq ?_ ?_ | refine own_eq ?_ ?_ | refine sl_eq ?_ | refine b_eq ?_ | (refine i_eq ?_; omega))); done) | rfl)
          · skip
            refine Exec.reg ?_
            iterate 2 (refine Run.op (by simp only [go_sem, hr, hs, hst, eL, eH] <;> rfl) (by simp only [go_sem] <;> rfl) ?_)
            refine Run.op (by simp only [go_sem, hr, hs, hst, eL, eH]; (try simp (disch := omega) only [IntWalk.i64_in, IntWalk.u64_in, if_neg, if_pos])<;> rfl) (by simp only [go_sem] <;> rfl) ?_
            refine Run.op (by simp only [go_sem, hr, hs, hst, eL, eH] <;> rfl) (by simp only [go_sem] <;> rfl) ?_
            refine Run.nil ?_
            refine Exec.reg ?_
            iterate 3 (refine Run.op (by simp only [go_sem, hr, hs, hst, eL, eH] <;> rfl) (by simp only [go_sem] <;> rfl) ?_)
            refine Run.op (by simp only [go_sem, hr, hs, hst, eL, eH]; (try simp (disch := omega) only [IntWalk.i64_in, IntWalk.u64_in, if_neg, if_pos])<;> rfl) (by simp only [go_sem] <;> rfl) ?_
            refine Run.cal (c_drum_modulo (at_ - lo) 10000 (by omega) (by omega)) (by simp only [go_sem]) (by simp only [go_sem, hr, hs, hst, eL, eH] <;> rfl) (by exact ⟨by first | exact WkR.pure rfl | exact WkR.nil _ | exact WkR.int (by first | omega | (simp; done) | (simp; omega)), by first | exact WkR.pure rfl | exact WkR.nil _ | exact WkR.int (by first | omega | (simp; done) | (simp; omega)), trivial⟩) (fr0) (by simp only [go_sem, hr, hs, hst, eL, eH] <;> rfl) ?_
            refine Run.op (by simp only [go_sem, hr, hs, hst, eL, eH]; (try simp (disch := omega) only [IntWalk.i64_in, IntWalk.u64_in, if_neg, if_pos])<;> rfl) (by simp only [go_sem] <;> rfl) ?_
            iterate 3 (refine Run.op (by simp only [go_sem, hr, hs, hst, eL, eH] <;> rfl) (by simp only [go_sem] <;> rfl) ?_)
            refine Run.op (by simp only [go_sem, hr, hs, hst, eL, eH]; (try simp (disch := omega) only [IntWalk.i64_in, IntWalk.u64_in, if_neg, if_pos])<;> rfl) (by simp only [go_sem] <;> rfl) ?_
            refine Run.cal (c_drum_modulo (hi - at_) 10000 (by omega) (by omega)) (by simp only [go_sem]) (by simp only [go_sem, hr, hs, hst, eL, eH] <;> rfl) (by exact ⟨by first | exact WkR.pure rfl | exact WkR.nil _ | exact WkR.int (by first | omega | (simp; done) | (simp; omega)), by first | exact WkR.pure rfl | exact WkR.nil _ | exact WkR.int (by first | omega | (simp; done) | (simp; omega)), trivial⟩) (fr0) (by simp only [go_sem, hr, hs, hst, eL, eH] <;> rfl) ?_
            refine Run.op (by simp only [go_sem, hr, hs, hst, eL, eH]; (try simp (disch := omega) only [IntWalk.i64_in, IntWalk.u64_in, if_neg, if_pos])<;> rfl) (by simp only [go_sem] <;> rfl) ?_
            iterate 2 (refine Run.op (by simp only [go_sem, hr, hs, hst, eL, eH] <;> rfl) (by simp only [go_sem] <;> rfl) ?_)
            refine Run.nil ?_
            refine Exec.assocS ?_
            refine Exec.reg ?_
            iterate 3 (refine Run.op (by simp only [go_sem, hr, hs, hst, eL, eH] <;> rfl) (by simp only [go_sem] <;> rfl) ?_)
            refine Run.nil ?_
            refine Exec.cndS (by simp only [go_sem, hr, hs, hst, eL, eH] <;> rfl) (fun hb68 => ?_) (fun hb68 => ?_)
            · skip
              have hc : leastI at_ lo > mostI at_ hi := of_decide_eq_true hb68
              have hcs : pStep at_ p s = { p with now := p.now + s } := by unfold pStep; rw [hlo, hhi, if_pos hc]
              refine Exec.exitS ?_
              refine BlkK.hit ?_
              refine Exec.reg1 ?_
              refine Run.op (by simp only [go_sem, hr, hs, hst, eL, eH, hcs]; (try simp (disch := omega) only [IntWalk.i64_in, IntWalk.u64_in, if_neg, if_pos])<;> rfl) (by simp only [go_sem] <;> rfl) ?_
              refine Run.op (by simp only [go_sem, hr, hs, hst, eL, eH, hcs] <;> rfl) (by simp only [go_sem] <;> rfl) ?_
              refine Run.nil ?_
              refine ForK.nxt ?_ ?_ ?_
              · omega
              · exact Ghost.kp [2, 6, 7, 9, 10, 33, 34, 35] [3, 900] (by simp only [go_sem, hr, hs, hst, eL, eH, hcs]; first | ((repeat' (first | with_reducible_and_instances rfl | refine st_eq ?_ ?_ ?_ | refine ret_eq ?_ | refine tup_eq ?_ | refine tm_eq ?_ ?_ | refine arr_eq ?_ | refine cells_eq ?_ | refine val_eq ?_ | refine ls_eq ?_ ?_ | refine own_eq ?_ ?_ | refine sl_eq ?_ | refine b_eq ?_ | (refine i_eq ?_; omega))); (all_goals (first | omega | (simp [lastI']; try omega)))) | rfl)
              · trivial
            · skip
              have hc : ¬ leastI at_ lo > mostI at_ hi := of_decide_eq_false hb68
              have htb2 := times_bnd (at_ := at_) (now := p.now) (n := s) hsb (by rw [hlo, hhi]; exact hc)
              have e3 : (mostI at_ hi - leastI at_ lo).tdiv 10000 = (mostI at_ hi - leastI at_ lo) / 10000 := tdiv_e (by omega)
              have e4 : (mostI at_ hi - leastI at_ lo) / 10000 + 1 = timesI at_ p.now s := by unfold timesI; rw [hlo, hhi]
              obtain ⟨tt, htt⟩ : ∃ x, timesI at_ p.now s = x := ⟨_, rfl⟩
              rw [htt] at e4 htb2
              obtain ⟨bg, hbg⟩ : ∃ x, beginI at_ p.now s = x := ⟨_, rfl⟩
              obtain ⟨en, hen⟩ : ∃ x, endI at_ p.now s = x := ⟨_, rfl⟩
              refine Exec.skipS ?_
              refine Exec.reg ?_
              iterate 2 (refine Run.op (by simp only [go_sem, hr, hs, hst, eL, eH, e3, e4] <;> rfl) (by simp only [go_sem] <;> rfl) ?_)
              refine Run.op (by simp only [go_sem, hr, hs, hst, eL, eH, e3, e4]; (try simp (disch := omega) only [IntWalk.i64_in, IntWalk.u64_in, if_neg, if_pos])<;> rfl) (by simp only [go_sem] <;> rfl) ?_
              refine Run.op (by simp only [go_sem, hr, hs, hst, eL, eH, e3, e4]; (try simp (disch := omega) only [IntWalk.i64_in, IntWalk.u64_in, if_neg, if_pos])<;> rfl) (by simp only [go_sem] <;> rfl) ?_
              refine Run.op (by simp only [go_sem, hr, hs, hst, eL, eH, e3, e4]; (try simp (disch := omega) only [IntWalk.i64_in, IntWalk.u64_in, if_neg, if_pos])<;> rfl) (by simp only [go_sem] <;> rfl) ?_
              refine Run.op (by simp only [go_sem, hr, hs, hst, eL, eH, e3, e4] <;> rfl) (by simp only [go_sem] <;> rfl) ?_
              refine Run.nil ?_
              refine Exec.reg ?_
              iterate 2 (refine Run.op (by simp only [go_sem, hr, hs, hst, eL, eH, e3, e4] <;> rfl) (by simp only [go_sem] <;> rfl) ?_)
              refine Run.op (by simp only [go_sem, hr, hs, hst, eL, eH, e3, e4]; (try simp (disch := omega) only [IntWalk.i64_in, IntWalk.u64_in, if_neg, if_pos])<;> rfl) (by simp only [go_sem] <;> rfl) ?_
              iterate 2 (refine Run.op (by simp only [go_sem, hr, hs, hst, eL, eH, e3, e4] <;> rfl) (by simp only [go_sem] <;> rfl) ?_)
              refine Run.op (by simp only [go_sem, hr, hs, hst, eL, eH, e3, e4]; (try simp (disch := omega) only [IntWalk.i64_in, IntWalk.u64_in, if_neg, if_pos])<;> rfl) (by simp only [go_sem] <;> rfl) ?_
              iterate 2 (refine Run.op (by simp only [go_sem, hr, hs, hst, eL, eH, e3, e4] <;> rfl) (by simp only [go_sem] <;> rfl) ?_)
              refine Run.nil ?_
              refine Exec.reg ?_
              iterate 4 (refine Run.op (by simp only [go_sem, hr, hs, hst, eL, eH, e3, e4] <;> rfl) (by simp only [go_sem] <;> rfl) ?_)
              refine Run.nil ?_
              refine Exec.assocS ?_
              refine Exec.reg ?_
              iterate 2 (refine Run.op (by simp only [go_sem, hr, hs, hst, eL, eH, e3, e4] <;> rfl) (by simp only [go_sem] <;> rfl) ?_)
              refine Run.nil ?_
              refine Exec.joinA [1, 2, 3, 6, 7, 9, 13, 14, 10, 16, 17, 33, 34, 35] [3, 900] (fun (u2 : Unit) => [.slot 16 (.int bg), .slot 17 (.int en)]) (fun (u2 : Unit) => True) (fun u2 => by simp only [go_sem] <;> rfl) ?_ (fun u2 hj => ?_)
              · skip
                refine Exec.cnd (by simp only [go_sem, hr, hs, hst, eL, eH, e3, e4] <;> rfl) (fun hb83 => ?_) (fun hb83 => ?_)
                · skip
                  have hn : s < 0 := of_decide_eq_true hb83
                  have e5 : mostI at_ hi = bg := by rw [← hbg, ← hhi]; exact (if_pos hn).symm
                  have e6 : leastI at_ lo = en := by rw [← hen, ← hlo]; exact (if_pos hn).symm
                  refine Exec.reg1 ?_
                  iterate 4 (refine Run.op (by simp only [go_sem, hr, hs, hst, eL, eH, e3, e4, e5, e6] <;> rfl) (by simp only [go_sem] <;> rfl) ?_)
                  refine Run.nil ?_
                  refine JoinK.nrm (()) ?_ ?_
                  · trivial
                  · exact Ghost.kp [1, 2, 3, 6, 7, 9, 13, 14, 10, 16, 17, 33, 34, 35] [3, 900] (by simp only [go_sem, hr, hs, hst, eL, eH, e3, e4, e5, e6]; first | ((repeat' (first | with_reducible_and_instances rfl | refine st_eq ?_ ?_ ?_ | refine ret_eq ?_ | refine tup_eq ?_ | refine tm_eq ?_ ?_ | refine arr_eq ?_ | refine cells_eq ?_ | refine val_eq ?_ | refine ls_eq ?_ ?_ | refine own_eq ?_ ?_ | refine sl_eq ?_ | refine b_eq ?_ | (refine i_eq ?_; omega))); done) | rfl)
                · skip
                  have hn : ¬ s < 0 := of_decide_eq_false hb83
                  have e5 : mostI at_ hi = en := by rw [← hen, ← hhi]; exact (if_neg hn).symm
                  have e6 : leastI at_ lo = bg := by rw [← hbg, ← hlo]; exact (if_neg hn).symm
                  refine JoinK.nrm (()) ?_ ?_
                  · trivial
                  · exact Ghost.kp [1, 2, 3, 6, 7, 9, 13, 14, 10, 16, 17, 33, 34, 35] [3, 900] (by simp only [go_sem, hr, hs, hst, eL, eH, e3, e4, e5, e6]; first | ((repeat' (first | with_reducible_and_instances rfl | refine st_eq ?_ ?_ ?_ | refine ret_eq ?_ | refine tup_eq ?_ | refine tm_eq ?_ ?_ | refine arr_eq ?_ | refine cells_eq ?_ | refine val_eq ?_ | refine ls_eq ?_ ?_ | refine own_eq ?_ ?_ | refine sl_eq ?_ | refine b_eq ?_ | (refine i_eq ?_; omega))); done) | rfl)
              · skip
                refine Exec.assocS ?_
                refine Exec.reg ?_
                iterate 3 (refine Run.op (by simp only [go_sem, hr, hs, hst, eL, eH, e3, e4] <;> rfl) (by simp only [go_sem] <;> rfl) ?_)
                refine Run.nil ?_
                refine Exec.cndS (by simp only [go_sem, hr, hs, hst, eL, eH, e3, e4] <;> rfl) (fun hb88 => ?_) (fun hb88 => ?_)
                · skip
                  have hbl : bg = lastI' at_ p := by simpa using hb88
                  have hbn := begin_no at_ p.now s
                  rw [hbg] at hbn
                  have hany : p.any = true ∧ bg = p.last := by
                    unfold lastI' at hbl
                    split at hbl
                    · rename_i h; exact ⟨h, hbl⟩
                    · exact absurd hbl hbn
                  have hcs : pStep at_ p s = ⟨p.all + tt, p.ct + tt - 1, p.now + s, en, true⟩ := by unfold pStep; rw [hlo, hhi, if_neg hc, htt, hbg, hen, if_pos hany]
                  refine Exec.reg ?_
                  refine Run.op (by simp only [go_sem, hr, hs, hst, eL, eH, e3, e4, hcs] <;> rfl) (by simp only [go_sem] <;> rfl) ?_
                  refine Run.op (by simp only [go_sem, hr, hs, hst, eL, eH, e3, e4, hcs]; (try simp (disch := omega) only [IntWalk.i64_in, IntWalk.u64_in, if_neg, if_pos])<;> rfl) (by simp only [go_sem] <;> rfl) ?_
                  refine Run.op (by simp only [go_sem, hr, hs, hst, eL, eH, e3, e4, hcs] <;> rfl) (by simp only [go_sem] <;> rfl) ?_
                  refine Run.nil ?_
                  refine Exec.reg1 ?_
                  iterate 2 (refine Run.op (by simp only [go_sem, hr, hs, hst, eL, eH, e3, e4, hcs] <;> rfl) (by simp only [go_sem] <;> rfl) ?_)
                  refine Run.nil ?_
                  refine BlkK.nrm ?_
                  refine Exec.reg1 ?_
                  refine Run.op (by simp only [go_sem, hr, hs, hst, eL, eH, e3, e4, hcs]; (try simp (disch := omega) only [IntWalk.i64_in, IntWalk.u64_in, if_neg, if_pos])<;> rfl) (by simp only [go_sem] <;> rfl) ?_
                  refine Run.op (by simp only [go_sem, hr, hs, hst, eL, eH, e3, e4, hcs] <;> rfl) (by simp only [go_sem] <;> rfl) ?_
                  refine Run.nil ?_
                  refine ForK.nxt ?_ ?_ ?_
                  · omega
                  · exact Ghost.kp [2, 6, 7, 9, 10, 33, 34, 35] [3, 900] (by simp only [go_sem, hr, hs, hst, eL, eH, e3, e4, hcs]; first | ((repeat' (first | with_reducible_and_instances rfl | refine st_eq ?_ ?_ ?_ | refine ret_eq ?_ | refine tup_eq ?_ | refine tm_eq ?_ ?_ | refine arr_eq ?_ | refine cells_eq ?_ | refine val_eq ?_ | refine ls_eq ?_ ?_ | refine own_eq ?_ ?_ | refine sl_eq ?_ | refine b_eq ?_ | (refine i_eq ?_; omega))); (all_goals (first | omega | (simp [lastI']; try omega)))) | rfl)
                  · trivial
                · skip
                  have hbl : ¬ bg = lastI' at_ p := by simpa using hb88
                  have hany : ¬ (p.any = true ∧ bg = p.last) := fun h => hbl (by unfold lastI'; rw [if_pos h.1]; exact h.2)
                  have hcs : pStep at_ p s = ⟨p.all + tt, p.ct + tt - 0, p.now + s, en, true⟩ := by unfold pStep; rw [hlo, hhi, if_neg hc, htt, hbg, hen, if_neg hany]
                  refine Exec.skipS ?_
                  refine Exec.reg1 ?_
                  iterate 2 (refine Run.op (by simp only [go_sem, hr, hs, hst, eL, eH, e3, e4, hcs, Int.sub_zero] <;> rfl) (by simp only [go_sem] <;> rfl) ?_)
                  refine Run.nil ?_
                  refine BlkK.nrm ?_
                  refine Exec.reg1 ?_
                  refine Run.op (by simp only [go_sem, hr, hs, hst, eL, eH, e3, e4, hcs, Int.sub_zero]; (try simp (disch := omega) only [IntWalk.i64_in, IntWalk.u64_in, if_neg, if_pos])<;> rfl) (by simp only [go_sem] <;> rfl) ?_
                  refine Run.op (by simp only [go_sem, hr, hs, hst, eL, eH, e3, e4, hcs, Int.sub_zero] <;> rfl) (by simp only [go_sem] <;> rfl) ?_
                  refine Run.nil ?_
                  refine ForK.nxt ?_ ?_ ?_
                  · omega
                  · exact Ghost.kp [2, 6, 7, 9, 10, 33, 34, 35] [3, 900] (by simp only [go_sem, hr, hs, hst, eL, eH, e3, e4, hcs, Int.sub_zero]; first | ((repeat' (first | with_reducible_and_instances rfl | refine st_eq ?_ ?_ ?_ | refine ret_eq ?_ | refine tup_eq ?_ | refine tm_eq ?_ ?_ | refine arr_eq ?_ | refine cells_eq ?_ | refine val_eq ?_ | refine ls_eq ?_ ?_ | refine own_eq ?_ ?_ | refine sl_eq ?_ | refine b_eq ?_ | (refine i_eq ?_; omega))); (all_goals (first | omega | (simp [lastI']; try omega)))) | rfl)
                  · trivial
        · skip
          have hke : k = l.length := by have := ge_of_dec hb36; omega
          subst hke
          refine Exec.exitS ?_
          refine ForK.ext ?_
          refine BlkK.hit ?_
          refine Exec.reg ?_
          iterate 5 (refine Run.op (by simp only [go_sem, hr, List.take_length] <;> rfl) (by simp only [go_sem] <;> rfl) ?_)
          refine Run.nil ?_
          exact Ends.fin [900] (rs := [.tmp 6, .tmp 7, .tmp 8]) rfl (by simp only [go_sem, hr, List.take_length] <;> rfl) (by simp only [go_sem, hr, List.take_length] <;> first | rfl | ((repeat' (first | with_reducible_and_instances rfl | refine st_eq ?_ ?_ ?_ | refine ret_eq ?_ | refine tup_eq ?_ | refine tm_eq ?_ ?_ | refine arr_eq ?_ | refine cells_eq ?_ | refine val_eq ?_ | refine ls_eq ?_ ?_ | refine own_eq ?_ ?_ | refine sl_eq ?_ | refine b_eq ?_ | (refine i_eq ?_; omega))); done))

end Go.Mw
namespace Go.Mw
open Go.Proofs
open Go.Dr
attribute [local go_sem] decide_true beq_self_eq_true bne_self_eq_false
theorem pul_err {r : Reg} {l : List Int} {at_ : Int} (h : ¬ (pulsesR r l at_).2.2 = 0) : (pulsesR r l at_).1 = 0 ∧ (pulsesR r l at_).2.1 = 0 := by
  unfold pulsesR at h ⊢
  split at h
  · rename_i he
    rw [if_pos he]
    split at h
    · simp at h
    · rename_i hi; rw [if_neg hi]; exact ⟨rfl, rfl⟩
  · rename_i he; rw [if_neg he]; exact ⟨rfl, rfl⟩
theorem pul_ok {r : Reg} {l : List Int} {at_ : Int} (h : (pulsesR r l at_).2.2 = 0) : errD r l = 0 ∧ inD at_ 0 9999 = true := by
  unfold pulsesR at h
  split at h
  · rename_i he
    split at h
    · rename_i hi; exact ⟨he, hi⟩
    · simp at h
  · rename_i he; exact absurd h he
theorem pul_is {r : Reg} {l : List Int} {at_ : Int} (h : errD r l = 0) (hi : inD at_ 0 9999 = true) : pulsesR r l at_ = ((pS at_ r.start l).ct, (pS at_ r.start l).all, 0) := by
  unfold pulsesR; rw [if_pos h, if_pos hi]
theorem uS_snocK {l : List Int} {k : Nat} {s : Int} (h : l[k]? = some s) : uS (l.take (k + 1)) = uStep (uS (l.take k)) s := by rw [take_succ_snoc h, uS_snoc]
theorem up_sum (l : List Int) : (uS l).up = true → 0 ≤ sumD l := by
  refine snoc_ind (p := fun l => (uS l).up = true → 0 ≤ sumD l) (fun _ => by simp [sumD]) (fun l n ih h => ?_) l
  rw [uS_snoc] at h
  unfold uStep at h
  simp only [Bool.and_eq_true, decide_eq_true_eq] at h
  have := ih h.1
  rw [sum_snoc]; omega
theorem turns_bnd (l : List Int) : 0 ≤ (uS l).turns ∧ (uS l).turns ≤ l.length := by
  refine snoc_ind (p := fun l => 0 ≤ (uS l).turns ∧ (uS l).turns ≤ l.length) (by simp [uS]) (fun l n ih => ?_) l
  rw [uS_snoc]
  unfold uStep
  simp only [List.length_append, List.length_cons, List.length_nil]
  split
  · split <;> omega
  · omega
theorem pS_bnd {r : Reg} {l : List Int} (at_ : Int) (h : errD r l = 0) : 0 ≤ (pS at_ r.start l).all ∧ (pS at_ r.start l).all ≤ 7000000000 := by
  obtain ⟨hreg, hl32, hlb⟩ := err_zero h
  have hpb := pb_all (start := r.start) (at_ := at_) hlb l.length (Nat.le_refl _)
  rw [List.take_length] at hpb
  obtain ⟨q1, q2, q3, q4, q5⟩ := hpb
  omega
set_option maxRecDepth 20000 in
/-- meterworks/meterworkslaw02.DrumPulses_1 -/
theorem c_until (x at_ : Int) (hx : 0 ≤ x ∧ x ≤ 100000000000000) (ha : 0 ≤ at_ ∧ at_ ≤ 9999) : Contract Try.prog 25 [.int x, .leaf (.d (.pt [.i at_]))] (.int (untilI at_ x)) [] := by
  have e : (x - at_ + 10000).tdiv 10000 = untilI at_ x := tdiv_e (by omega)
  have hb : 0 ≤ untilI at_ x ∧ untilI at_ x ≤ 100000000000000 := by unfold untilI; omega
  refine con_of follows_mixed Try.func25 rfl (by simp only [List.length_cons, List.length_nil, Try.ntmps25]; omega) (by kernel_rfl) rfl ?_
  refine Exec.reg ?_
  refine Run.op (by simp only [go_sem, e] <;> rfl) (by simp only [go_sem] <;> rfl) ?_
  refine Run.nil ?_
  refine Exec.reg ?_
  iterate 2 (refine Run.op (by simp only [go_sem, e] <;> rfl) (by simp only [go_sem] <;> rfl) ?_)
  refine Run.op (by simp only [go_sem, e]; (try simp (disch := omega) only [IntWalk.i64_in, IntWalk.u64_in, if_neg, if_pos])<;> rfl) (by simp only [go_sem] <;> rfl) ?_
  refine Run.op (by simp only [go_sem, e]; (try simp (disch := omega) only [IntWalk.i64_in, IntWalk.u64_in, if_neg, if_pos])<;> rfl) (by simp only [go_sem] <;> rfl) ?_
  refine Run.op (by simp only [go_sem, e]; (try simp (disch := omega) only [IntWalk.i64_in, IntWalk.u64_in, if_neg, if_pos])<;> rfl) (by simp only [go_sem] <;> rfl) ?_
  refine Run.op (by simp only [go_sem, e] <;> rfl) (by simp only [go_sem] <;> rfl) ?_
  refine Run.nil ?_
  exact Ends.fin [] (rs := [.tmp 3]) rfl (by simp only [go_sem, e] <;> rfl) (by simp only [go_sem, e] <;> first | rfl | ((repeat' (first | with_reducible_and_instances rfl | refine st_eq ?_ ?_ ?_ | refine ret_eq ?_ | refine tup_eq ?_ | refine tm_eq ?_ ?_ | refine arr_eq ?_ | refine cells_eq ?_ | refine val_eq ?_ | refine ls_eq ?_ ?_ | refine own_eq ?_ ?_ | refine sl_eq ?_ | refine b_eq ?_ | (refine i_eq ?_; omega))); done))

set_option maxRecDepth 20000 in
set_option maxHeartbeats 32000000 in
/-- meterworks/meterworkslaw02.DrumPulses -/
theorem c_law_DrumPulses (r : Reg) (l : List Int) (at_ : Int) : Contract Try.prog 8 [regV r, .leaf (.d (intsD l)), .int at_] (.bool true) [] := by
  refine con_of follows_mixed Try.func8 rfl (by simp only [List.length_cons, List.length_nil, Try.ntmps8]; omega) (by kernel_rfl) rfl ?_
  refine Exec.reg ?_
  iterate 3 (refine Run.op (by simp only [go_sem] <;> rfl) (by simp only [go_sem] <;> rfl) ?_)
  refine Run.nil ?_
  refine Exec.assocS ?_
  refine Exec.reg ?_
  iterate 3 (refine Run.op (by simp only [go_sem] <;> rfl) (by simp only [go_sem] <;> rfl) ?_)
  refine Run.nil ?_
  refine Exec.cndS (by simp only [go_sem] <;> rfl) (fun hb29 => ?_) (fun hb29 => ?_)
  · skip
    refine Exec.assocS ?_
    refine Exec.reg ?_
    refine Run.cal (c_law_awake) (by simp only [go_sem]) (by simp only [go_sem] <;> rfl) (by exact trivial) (fr0) (by simp only [go_sem] <;> rfl) ?_
    refine Run.op (by simp only [go_sem] <;> rfl) (by simp only [go_sem] <;> rfl) ?_
    refine Run.nil ?_
    refine Exec.retS ?_
    exact Ends.fin [] (rs := [.tmp 6]) rfl (by simp only [go_sem] <;> rfl) (by simp only [go_sem] <;> first | rfl | ((repeat' (first | with_reducible_and_instances rfl | refine st_eq ?_ ?_ ?_ | refine ret_eq ?_ | refine tup_eq ?_ | refine tm_eq ?_ ?_ | refine arr_eq ?_ | refine cells_eq ?_ | refine val_eq ?_ | refine ls_eq ?_ ?_ | refine own_eq ?_ ?_ | refine sl_eq ?_ | refine b_eq ?_ | (refine i_eq ?_; omega))); done))
  have hl : l.length ≤ 1000 := by have := of_decide_eq_false hb29; omega
  refine Exec.skipS ?_
  refine Exec.reg ?_
  iterate 3 (refine Run.op (by simp only [go_sem] <;> rfl) (by simp only [go_sem] <;> rfl) ?_)
  refine Run.cal (c_drum_Pulses r l at_ hl) (by simp only [go_sem]) (by simp only [go_sem] <;> rfl) (by exact ⟨by first | exact WkR.pure rfl | exact WkR.nil _ | exact WkR.int (by first | omega | (simp; done) | (simp; omega)), by first | exact WkR.pure rfl | exact WkR.nil _ | exact WkR.int (by first | omega | (simp; done) | (simp; omega)), by first | exact WkR.pure rfl | exact WkR.nil _ | exact WkR.int (by first | omega | (simp; done) | (simp; omega)), trivial⟩) (fr0) (by simp only [go_sem] <;> rfl) ?_
  iterate 7 (refine Run.op (by simp only [go_sem] <;> rfl) (by simp only [go_sem] <;> rfl) ?_)
  refine Run.nil ?_
  refine Exec.assocS ?_
  refine Exec.reg ?_
  iterate 2 (refine Run.op (by simp only [go_sem] <;> rfl) (by simp only [go_sem] <;> rfl) ?_)
  refine Run.nil ?_
  refine Exec.cndS (by simp only [go_sem] <;> rfl) (fun hb40 => ?_) (fun hb40 => ?_)
  · skip
    have h0 : ¬ (pulsesR r l at_).2.2 = 0 := by simpa using hb40
    obtain ⟨e1, e2⟩ := pul_err h0
    refine Exec.assocS ?_
    refine Exec.reg ?_
    refine Run.op (by simp only [go_sem] <;> rfl) (by simp only [go_sem] <;> rfl) ?_
    iterate 2 (refine Run.op (by simp only [go_sem, e1, e2] <;> rfl) (by simp only [go_sem] <;> rfl) ?_)
    refine Run.yes (by simp only [go_sem] <;> rfl) (by simp only [go_sem] <;> rfl) (by simp only [go_sem] <;> rfl) ?_
    refine Run.yes (by simp only [go_sem] <;> rfl) (by simp only [go_sem, e1, e2] <;> rfl) (by simp only [go_sem] <;> rfl) ?_
    iterate 2 (refine Run.op (by simp only [go_sem, e1, e2] <;> rfl) (by simp only [go_sem] <;> rfl) ?_)
    refine Run.calw (by simp only [go_sem] <;> rfl) (c_law_awake) (by simp only [go_sem]) (by simp only [go_sem, e1, e2] <;> rfl) (by simp only [go_sem, e1, e2] <;> rfl) (by exact trivial) (fr0) (by simp only [go_sem, e1, e2] <;> rfl) ?_
    refine Run.op (by simp only [go_sem, e1, e2] <;> rfl) (by simp only [go_sem] <;> rfl) ?_
    refine Run.op (by simp only [go_sem] <;> rfl) (by simp only [go_sem] <;> rfl) ?_
    refine Run.nil ?_
    refine Exec.retS ?_
    exact Ends.fin [] (rs := [.tmp 6]) rfl (by simp only [go_sem, e1, e2] <;> rfl) (by simp only [go_sem, e1, e2] <;> first | rfl | ((repeat' (first | with_reducible_and_instances rfl | refine st_eq ?_ ?_ ?_ | refine ret_eq ?_ | refine tup_eq ?_ | refine tm_eq ?_ ?_ | refine arr_eq ?_ | refine cells_eq ?_ | refine val_eq ?_ | refine ls_eq ?_ ?_ | refine own_eq ?_ ?_ | refine sl_eq ?_ | refine b_eq ?_ | (refine i_eq ?_; omega))); done))
  have h0 : (pulsesR r l at_).2.2 = 0 := by simpa using hb40
  obtain ⟨he, hin⟩ := pul_ok h0
  have hat := inD_iff.1 hin
  have hpi := pul_is he hin
  obtain ⟨hreg, hl32, hlb⟩ := err_zero he
  have hq := reg_iff.1 hreg
  have htb := turn_bnd hq.1.2
  obtain ⟨t1, t2, t3⟩ := pulse_turns at_ r.start l
  have hub := turns_bnd l
  have hpb := pS_bnd at_ he
  have hsb := sum_bnd hlb
  have g1 : decide (at_ < 0) = false := decide_eq_false (by omega)
  have g2 : decide (at_ > 9999) = false := decide_eq_false (by omega)
  have g3 : decide ((pS at_ r.start l).ct < 0) = false := decide_eq_false (by omega)
  have g4 : decide ((pS at_ r.start l).ct > (pS at_ r.start l).all) = false := decide_eq_false (by omega)
  have g5 : decide ((pS at_ r.start l).all - (pS at_ r.start l).ct > (uS l).turns) = false := decide_eq_false (by omega)
  have hxs : uS [] = ⟨true, 0, 0⟩ := rfl
  refine Exec.skipS ?_
  refine Exec.assocS ?_
  refine Exec.reg ?_
  refine Run.op (by simp only [go_sem, hpi, hreg, Bool.not_true, g1, g2, g3, g4, g5] <;> rfl) (by simp only [go_sem] <;> rfl) ?_
  refine Run.cal (c_meterworksref02_Register r) (by simp only [go_sem]) (by simp only [go_sem, hpi, hreg, Bool.not_true, g1, g2, g3, g4, g5] <;> rfl) (by exact ⟨by first | exact WkR.pure rfl | exact WkR.nil _ | exact WkR.int (by first | omega | (simp; done) | (simp; omega)), trivial⟩) (fr0) (by simp only [go_sem, hpi, hreg, Bool.not_true, g1, g2, g3, g4, g5] <;> rfl) ?_
  iterate 2 (refine Run.op (by simp only [go_sem, hpi, hreg, Bool.not_true, g1, g2, g3, g4, g5] <;> rfl) (by simp only [go_sem] <;> rfl) ?_)
  iterate 2 (refine Run.yes (by simp only [go_sem] <;> rfl) (by simp only [go_sem, hpi, hreg, Bool.not_true, g1, g2, g3, g4, g5] <;> rfl) (by simp only [go_sem] <;> rfl) ?_)
  iterate 2 (refine Run.op (by simp only [go_sem, hpi, hreg, Bool.not_true, g1, g2, g3, g4, g5] <;> rfl) (by simp only [go_sem] <;> rfl) ?_)
  iterate 2 (refine Run.yes (by simp only [go_sem] <;> rfl) (by simp only [go_sem, hpi, hreg, Bool.not_true, g1, g2, g3, g4, g5] <;> rfl) (by simp only [go_sem] <;> rfl) ?_)
  refine Run.op (by simp only [go_sem, hpi, hreg, Bool.not_true, g1, g2, g3, g4, g5] <;> rfl) (by simp only [go_sem] <;> rfl) ?_
  refine Run.nil ?_
  refine Exec.cndS (by simp only [go_sem, hpi, hreg, Bool.not_true, g1, g2, g3, g4, g5] <;> rfl) (fun hb60 => ?_) (fun hb60 => ?_)
  · exact absurd hb60 (by simp)
  refine Exec.skipS ?_
  refine Exec.opk 8 ?_
  refine OpenK.op (by simp only [go_sem] <;> rfl) (by simp only [go_sem] <;> rfl) (by simp only [go_sem] <;> rfl) ?_
  refine OpenK.op (by simp only [go_sem, hpi, hreg, Bool.not_true, g1, g2, g3, g4, g5] <;> rfl) (by simp only [go_sem] <;> rfl) (by simp only [go_sem] <;> rfl) ?_
  iterate 4 (refine OpenK.op (by simp only [go_sem] <;> rfl) (by simp only [go_sem] <;> rfl) (by simp only [go_sem] <;> rfl) ?_)
  refine OpenK.nil (OpenE.fin (by decide +kernel) (by decide +kernel) ?_)
  refine Exec.assocS ?_
  refine Exec.reg ?_
  refine Run.op (by simp only [go_sem] <;> rfl) (by simp only [go_sem] <;> rfl) ?_
  refine Run.nil ?_
  refine Exec.blk ?_
  refine Exec.forA [1, 3, 5, 7, 8, 10, 11, 12, 13, 14] [3, 5] (l.length) (fun k => [.slot 14 (.int k), .slot 10 (.bool (uS (l.take k)).up), .slot 11 (.int (uS (l.take k)).turns), .slot 12 (.int (r.start + sumD (l.take k))), .slot 13 (.int (uS (l.take k)).lastr)]) (fun _ => True) (fun k => by simp only [go_sem] <;> rfl) (by simp only [go_sem, List.take_zero, sumD, Int.add_zero, Int.natCast_zero, hxs] <;> rfl) ?_ (fun k hk hX => ?_)
  · trivial
  refine Exec.assocS ?_
  refine Exec.reg ?_
  iterate 2 (refine Run.op (by simp only [go_sem] <;> rfl) (by simp only [go_sem] <;> rfl) ?_)
  iterate 2 (refine Run.op (by simp only [go_sem, hpi, hreg, Bool.not_true, g1, g2, g3, g4, g5] <;> rfl) (by simp only [go_sem] <;> rfl) ?_)
  refine Run.nil ?_
  refine Exec.cndS (by simp only [go_sem, hpi, hreg, Bool.not_true, g1, g2, g3, g4, g5] <;> rfl) (fun hb66 => ?_) (fun hb66 => ?_)
  · skip
    have hlt := lt_of_dec hb66
    obtain ⟨s, hs⟩ := elem_of hb66
    have hs1 : sumD (l.take (k + 1)) = sumD (l.take k) + s := by rw [take_succ_snoc hs, sum_snoc]
    have hb1 := sum_bnd (l := l.take k) fun n hn => hlb n (List.mem_of_mem_take hn)
    have hb2 := hlb s (List.mem_of_getElem? hs)
    have hb3 : (l.take k).length ≤ 32 := by rw [List.length_take]; omega
    have hub2 := turns_bnd (l.take k)
    have hst := uS_snocK hs
    obtain ⟨u, hu⟩ : ∃ u, uS (l.take k) = u := ⟨_, rfl⟩
    rw [hu] at hst hub2
    simp only [hu]
    obtain ⟨up, turns, lastr⟩ := u
    simp only at hub2
    refine Exec.skipS ?_
    refine Exec.blk ?_
    refine Exec.reg ?_
    refine Run.op (by simp only [go_sem] <;> rfl) (by simp only [go_sem] <;> rfl) ?_
    refine Run.op (by simp only [go_sem, hpi, hreg, Bool.not_true, g1, g2, g3, g4, g5, hs, hs1, hst] <;> rfl) (by simp only [go_sem] <;> rfl) ?_
    iterate 2 (refine Run.gop (by simp only [go_sem] <;> rfl) (by simp only [go_sem] <;> rfl) (by simp only [go_sem] <;> rfl) ?_)
    refine Run.gop (by simp only [go_sem] <;> rfl) (by simp only [go_sem, hpi, hreg, Bool.not_true, g1, g2, g3, g4, g5, hs, hs1, hst]; (try simp (disch := omega) only [if_pos]); (try simp only [go_sem, hpi, hreg, Bool.not_true, g1, g2, g3, g4, g5, hs, hs1, hst])<;> rfl) (by simp only [go_sem] <;> rfl) ?_
    iterate 2 (refine Run.gop (by simp only [go_sem] <;> rfl) (by simp only [go_sem, hpi, hreg, Bool.not_true, g1, g2, g3, g4, g5, hs, hs1, hst] <;> rfl) (by simp only [go_sem] <;> rfl) ?_)
    refine Run.op (by simp only [go_sem, hpi, hreg, Bool.not_true, g1, g2, g3, g4, g5, hs, hs1, hst] <;> rfl) (by simp only [go_sem] <;> rfl) ?_
    refine Run.op (by simp only [go_sem] <;> rfl) (by simp only [go_sem] <;> rfl) ?_
    refine Run.nil ?_
    refine Exec.reg ?_
    iterate 3 (refine Run.op (by simp only [go_sem] <;> rfl) (by simp only [go_sem] <;> rfl) ?_)
    refine Run.op (by simp only [go_sem, hpi, hreg, Bool.not_true, g1, g2, g3, g4, g5, hs, hs1, hst]; (try simp (disch := omega) only [if_pos]); (try simp only [go_sem, hpi, hreg, Bool.not_true, g1, g2, g3, g4, g5, hs, hs1, hst])<;> rfl) (by simp only [go_sem] <;> rfl) ?_
    refine Run.op (by simp only [go_sem, hpi, hreg, Bool.not_true, g1, g2, g3, g4, g5, hs, hs1, hst] <;> rfl) (by simp only [go_sem] <;> rfl) ?_
    refine Run.op (by simp only [go_sem, hpi, hreg, Bool.not_true, g1, g2, g3, g4, g5, hs, hs1, hst]; (try simp (disch := omega) only [IntWalk.i64_in, IntWalk.u64_in, if_neg, if_pos])<;> rfl) (by simp only [go_sem] <;> rfl) ?_
    refine Run.op (by simp only [go_sem] <;> rfl) (by simp only [go_sem] <;> rfl) ?_
    refine Run.nil ?_
    refine Exec.reg ?_
    iterate 2 (refine Run.op (by simp only [go_sem] <;> rfl) (by simp only [go_sem] <;> rfl) ?_)
    refine Run.op (by simp only [go_sem, hpi, hreg, Bool.not_true, g1, g2, g3, g4, g5, hs, hs1, hst]; (try simp (disch := omega) only [if_pos]); (try simp only [go_sem, hpi, hreg, Bool.not_true, g1, g2, g3, g4, g5, hs, hs1, hst])<;> rfl) (by simp only [go_sem] <;> rfl) ?_
    iterate 2 (refine Run.op (by simp only [go_sem, hpi, hreg, Bool.not_true, g1, g2, g3, g4, g5, hs, hs1, hst] <;> rfl) (by simp only [go_sem] <;> rfl) ?_)
    refine Run.nil ?_
    refine Exec.cnd (by simp only [go_sem, hpi, hreg, Bool.not_true, g1, g2, g3, g4, g5, hs, hs1, hst] <;> rfl) (fun hb87 => ?_) (fun hb87 => ?_)
    · skip
      have hz : s ≠ 0 := by simpa using hb87
      refine Exec.assocS ?_
      by_cases hl0 : lastr = 0
      · skip
        have g9 : (lastr != 0) = false := by simpa using hl0
        refine Exec.reg ?_
        refine Run.op (by simp only [go_sem] <;> rfl) (by simp only [go_sem] <;> rfl) ?_
        iterate 2 (refine Run.op (by simp only [go_sem, hpi, hreg, Bool.not_true, g1, g2, g3, g4, g5, hs, hs1, hst, g9] <;> rfl) (by simp only [go_sem] <;> rfl) ?_)
        iterate 8 (refine Run.skp (by simp only [go_sem] <;> rfl) (by simp only [go_sem] <;> rfl) ?_)
        refine Run.op (by simp only [go_sem, hpi, hreg, Bool.not_true, g1, g2, g3, g4, g5, hs, hs1, hst, g9] <;> rfl) (by simp only [go_sem] <;> rfl) ?_
        refine Run.nil ?_
        refine Exec.cndS (by simp only [go_sem, hpi, hreg, Bool.not_true, g1, g2, g3, g4, g5, hs, hs1, hst, g9] <;> rfl) (fun hb99 => ?_) (fun hb99 => ?_)
        · exact absurd hb99 (by simp)
        have hus : uStep ⟨up, turns, lastr⟩ s = ⟨up && decide (s ≥ 0), turns, s⟩ := by unfold uStep; rw [if_pos hz, if_pos hz, if_neg (by simp [hl0])]
        refine Exec.skipS ?_
        refine Exec.reg1 ?_
        iterate 2 (refine Run.op (by simp only [go_sem] <;> rfl) (by simp only [go_sem] <;> rfl) ?_)
        refine Run.op (by simp only [go_sem, hpi, hreg, Bool.not_true, g1, g2, g3, g4, g5, hs, hs1, hst, g9, hus]; (try simp (disch := omega) only [if_pos]); (try simp only [go_sem, hpi, hreg, Bool.not_true, g1, g2, g3, g4, g5, hs, hs1, hst, g9, hus])<;> rfl) (by simp only [go_sem] <;> rfl) ?_
        refine Run.op (by simp only [go_sem, hpi, hreg, Bool.not_true, g1, g2, g3, g4, g5, hs, hs1, hst, g9, hus] <;> rfl) (by simp only [go_sem] <;> rfl) ?_
        refine Run.op (by simp only [go_sem] <;> rfl) (by simp only [go_sem] <;> rfl) ?_
        refine Run.nil ?_
        refine BlkK.nrm ?_
        refine Exec.reg1 ?_
        refine Run.op (by simp only [go_sem] <;> rfl) (by simp only [go_sem] <;> rfl) ?_
        refine Run.op (by simp only [go_sem, hpi, hreg, Bool.not_true, g1, g2, g3, g4, g5, hs, hs1, hst, g9, hus]; (try simp (disch := omega) only [IntWalk.i64_in, IntWalk.u64_in, if_neg, if_pos])<;> rfl) (by simp only [go_sem] <;> rfl) ?_
        refine Run.op (by simp only [go_sem] <;> rfl) (by simp only [go_sem] <;> rfl) ?_
        refine Run.nil ?_
        refine ForK.nxt ?_ ?_ ?_
        · omega
        · exact Ghost.kp [1, 3, 5, 7, 8, 10, 11, 12, 13, 14] [3, 5] (by simp only [go_sem, hpi, hreg, Bool.not_true, g1, g2, g3, g4, g5, hs, hs1, hst, g9, hus]; first | ((repeat' (first | with_reducible_and_instances rfl | refine st_eq ?_ ?_ ?_ | refine ret_eq ?_ | refine tup_eq ?_ | refine tm_eq ?_ ?_ | refine arr_eq ?_ | refine cells_eq ?_ | refine val_eq ?_ | refine ls_eq ?_ ?_ | refine own_eq ?_ ?_ | refine sl_eq ?_ | refine b_eq ?_ | (refine i_eq ?_; omega))); (all_goals (first | omega | (simp; try omega)))) | rfl)
        · trivial
      have g9 : (lastr != 0) = true := by simpa using hl0
      refine Exec.reg ?_
      refine Run.op (by simp only [go_sem] <;> rfl) (by simp only [go_sem] <;> rfl) ?_
      iterate 2 (refine Run.op (by simp only [go_sem, hpi, hreg, Bool.not_true, g1, g2, g3, g4, g5, hs, hs1, hst, g9] <;> rfl) (by simp only [go_sem] <;> rfl) ?_)
      refine Run.yes (by simp only [go_sem] <;> rfl) (by simp only [go_sem] <;> rfl) (by simp only [go_sem] <;> rfl) ?_
      refine Run.yes (by simp only [go_sem] <;> rfl) (by simp only [go_sem, hpi, hreg, Bool.not_true, g1, g2, g3, g4, g5, hs, hs1, hst, g9] <;> rfl) (by simp only [go_sem] <;> rfl) ?_
      iterate 2 (refine Run.yes (by simp only [go_sem] <;> rfl) (by simp only [go_sem] <;> rfl) (by simp only [go_sem] <;> rfl) ?_)
      refine Run.yes (by simp only [go_sem] <;> rfl) (by simp only [go_sem, hpi, hreg, Bool.not_true, g1, g2, g3, g4, g5, hs, hs1, hst, g9]; (try simp (disch := omega) only [if_pos]); (try simp only [go_sem, hpi, hreg, Bool.not_true, g1, g2, g3, g4, g5, hs, hs1, hst, g9])<;> rfl) (by simp only [go_sem] <;> rfl) ?_
      iterate 3 (refine Run.yes (by simp only [go_sem] <;> rfl) (by simp only [go_sem, hpi, hreg, Bool.not_true, g1, g2, g3, g4, g5, hs, hs1, hst, g9] <;> rfl) (by simp only [go_sem] <;> rfl) ?_)
      refine Run.op (by simp only [go_sem, hpi, hreg, Bool.not_true, g1, g2, g3, g4, g5, hs, hs1, hst, g9] <;> rfl) (by simp only [go_sem] <;> rfl) ?_
      refine Run.nil ?_
      refine Exec.cndS (by simp only [go_sem, hpi, hreg, Bool.not_true, g1, g2, g3, g4, g5, hs, hs1, hst, g9] <;> rfl) (fun hb99 => ?_) (fun hb99 => ?_)
      · skip
        have hdi : ¬ (lastr > 0 ↔ s > 0) := by
          intro hiff
          have : decide (lastr > 0) = decide (s > 0) := by simp [hiff]
          rw [this] at hb99
          simp at hb99
        have hus : uStep ⟨up, turns, lastr⟩ s = ⟨up && decide (s ≥ 0), turns + 1, s⟩ := by unfold uStep; rw [if_pos hz, if_pos hz, if_pos ⟨hl0, hdi⟩]
        refine Exec.reg ?_
        refine Run.op (by simp only [go_sem] <;> rfl) (by simp only [go_sem] <;> rfl) ?_
        refine Run.op (by simp only [go_sem, hpi, hreg, Bool.not_true, g1, g2, g3, g4, g5, hs, hs1, hst, g9, hus]; (try simp (disch := omega) only [IntWalk.i64_in, IntWalk.u64_in, if_neg, if_pos])<;> rfl) (by simp only [go_sem] <;> rfl) ?_
        refine Run.op (by simp only [go_sem] <;> rfl) (by simp only [go_sem] <;> rfl) ?_
        refine Run.nil ?_
        refine Exec.reg1 ?_
        iterate 2 (refine Run.op (by simp only [go_sem] <;> rfl) (by simp only [go_sem] <;> rfl) ?_)
        refine Run.op (by simp only [go_sem, hpi, hreg, Bool.not_true, g1, g2, g3, g4, g5, hs, hs1, hst, g9, hus]; (try simp (disch := omega) only [if_pos]); (try simp only [go_sem, hpi, hreg, Bool.not_true, g1, g2, g3, g4, g5, hs, hs1, hst, g9, hus])<;> rfl) (by simp only [go_sem] <;> rfl) ?_
        refine Run.op (by simp only [go_sem, hpi, hreg, Bool.not_true, g1, g2, g3, g4, g5, hs, hs1, hst, g9, hus] <;> rfl) (by simp only [go_sem] <;> rfl) ?_
        refine Run.op (by simp only [go_sem] <;> rfl) (by simp only [go_sem] <;> rfl) ?_
        refine Run.nil ?_
        refine BlkK.nrm ?_
        refine Exec.reg1 ?_
        refine Run.op (by simp only [go_sem] <;> rfl) (by simp only [go_sem] <;> rfl) ?_
        refine Run.op (by simp only [go_sem, hpi, hreg, Bool.not_true, g1, g2, g3, g4, g5, hs, hs1, hst, g9, hus]; (try simp (disch := omega) only [IntWalk.i64_in, IntWalk.u64_in, if_neg, if_pos])<;> rfl) (by simp only [go_sem] <;> rfl) ?_
        refine Run.op (by simp only [go_sem] <;> rfl) (by simp only [go_sem] <;> rfl) ?_
        refine Run.nil ?_
        refine ForK.nxt ?_ ?_ ?_
        · omega
        · exact Ghost.kp [1, 3, 5, 7, 8, 10, 11, 12, 13, 14] [3, 5] (by simp only [go_sem, hpi, hreg, Bool.not_true, g1, g2, g3, g4, g5, hs, hs1, hst, g9, hus]; first | ((repeat' (first | with_reducible_and_instances rfl | refine st_eq ?_ ?_ ?_ | refine ret_eq ?_ | refine tup_eq ?_ | refine tm_eq ?_ ?_ | refine arr_eq ?_ | refine cells_eq ?_ | refine val_eq ?_ | refine ls_eq ?_ ?_ | refine own_eq ?_ ?_ | refine sl_eq ?_ | refine b_eq ?_ | (refine i_eq ?_; omega))); (all_goals (first | omega | (simp; try omega)))) | rfl)
        · trivial
      have hdi : ¬ (lastr ≠ 0 ∧ ¬ (lastr > 0 ↔ s > 0)) := by
        rintro ⟨_, h⟩
        apply h
        have h9 : decide (lastr > 0) = decide (s > 0) := by simpa using hb99
        simpa using h9
      have hus : uStep ⟨up, turns, lastr⟩ s = ⟨up && decide (s ≥ 0), turns, s⟩ := by unfold uStep; rw [if_pos hz, if_pos hz, if_neg hdi]
      refine Exec.skipS ?_
      refine Exec.reg1 ?_
      iterate 2 (refine Run.op (by simp only [go_sem] <;> rfl) (by simp only [go_sem] <;> rfl) ?_)
      refine Run.op (by simp only [go_sem, hpi, hreg, Bool.not_true, g1, g2, g3, g4, g5, hs, hs1, hst, g9, hus]; (try simp (disch := omega) only [if_pos]); (try simp only [go_sem, hpi, hreg, Bool.not_true, g1, g2, g3, g4, g5, hs, hs1, hst, g9, hus])<;> rfl) (by simp only [go_sem] <;> rfl) ?_
      refine Run.op (by simp only [go_sem, hpi, hreg, Bool.not_true, g1, g2, g3, g4, g5, hs, hs1, hst, g9, hus] <;> rfl) (by simp only [go_sem] <;> rfl) ?_
      refine Run.op (by simp only [go_sem] <;> rfl) (by simp only [go_sem] <;> rfl) ?_
      refine Run.nil ?_
      refine BlkK.nrm ?_
      refine Exec.reg1 ?_
      refine Run.op (by simp only [go_sem] <;> rfl) (by simp only [go_sem] <;> rfl) ?_
      refine Run.op (by simp only [go_sem, hpi, hreg, Bool.not_true, g1, g2, g3, g4, g5, hs, hs1, hst, g9, hus]; (try simp (disch := omega) only [IntWalk.i64_in, IntWalk.u64_in, if_neg, if_pos])<;> rfl) (by simp only [go_sem] <;> rfl) ?_
      refine Run.op (by simp only [go_sem] <;> rfl) (by simp only [go_sem] <;> rfl) ?_
      refine Run.nil ?_
      refine ForK.nxt ?_ ?_ ?_
      · omega
      · exact Ghost.kp [1, 3, 5, 7, 8, 10, 11, 12, 13, 14] [3, 5] (by simp only [go_sem, hpi, hreg, Bool.not_true, g1, g2, g3, g4, g5, hs, hs1, hst, g9, hus]; first | ((repeat' (first | with_reducible_and_instances rfl | refine st_eq ?_ ?_ ?_ | refine ret_eq ?_ | refine tup_eq ?_ | refine tm_eq ?_ ?_ | refine arr_eq ?_ | refine cells_eq ?_ | refine val_eq ?_ | refine ls_eq ?_ ?_ | refine own_eq ?_ ?_ | refine sl_eq ?_ | refine b_eq ?_ | (refine i_eq ?_; omega))); (all_goals (first | omega | (simp; try omega)))) | rfl)
      · trivial
    have hz : ¬ s ≠ 0 := by simpa using hb87
    have hus : uStep ⟨up, turns, lastr⟩ s = ⟨up && decide (s ≥ 0), turns, lastr⟩ := by unfold uStep; rw [if_neg hz, if_neg hz]
    refine BlkK.nrm ?_
    refine Exec.reg1 ?_
    refine Run.op (by simp only [go_sem] <;> rfl) (by simp only [go_sem] <;> rfl) ?_
    refine Run.op (by simp only [go_sem, hpi, hreg, Bool.not_true, g1, g2, g3, g4, g5, hs, hs1, hst, hus]; (try simp (disch := omega) only [IntWalk.i64_in, IntWalk.u64_in, if_neg, if_pos])<;> rfl) (by simp only [go_sem] <;> rfl) ?_
    refine Run.op (by simp only [go_sem] <;> rfl) (by simp only [go_sem] <;> rfl) ?_
    refine Run.nil ?_
    refine ForK.nxt ?_ ?_ ?_
    · omega
    · exact Ghost.kp [1, 3, 5, 7, 8, 10, 11, 12, 13, 14] [3, 5] (by simp only [go_sem, hpi, hreg, Bool.not_true, g1, g2, g3, g4, g5, hs, hs1, hst, hus]; first | ((repeat' (first | with_reducible_and_instances rfl | refine st_eq ?_ ?_ ?_ | refine ret_eq ?_ | refine tup_eq ?_ | refine tm_eq ?_ ?_ | refine arr_eq ?_ | refine cells_eq ?_ | refine val_eq ?_ | refine ls_eq ?_ ?_ | refine own_eq ?_ ?_ | refine sl_eq ?_ | refine b_eq ?_ | (refine i_eq ?_; omega))); (all_goals (first | omega | (simp; try omega)))) | rfl)
    · trivial
  have hke : k = l.length := by have := ge_of_dec hb66; omega
  subst hke
  refine Exec.exitS ?_
  refine ForK.ext ?_
  refine BlkK.hit ?_
  refine Exec.assocS ?_
  refine Exec.reg ?_
  refine Run.op (by simp only [go_sem] <;> rfl) (by simp only [go_sem] <;> rfl) ?_
  iterate 2 (refine Run.op (by simp only [go_sem, hpi, hreg, Bool.not_true, g1, g2, g3, g4, g5, List.take_length] <;> rfl) (by simp only [go_sem] <;> rfl) ?_)
  iterate 2 (refine Run.yes (by simp only [go_sem] <;> rfl) (by simp only [go_sem] <;> rfl) (by simp only [go_sem] <;> rfl) ?_)
  refine Run.yes (by simp only [go_sem] <;> rfl) (by simp only [go_sem, hpi, hreg, Bool.not_true, g1, g2, g3, g4, g5, List.take_length] <;> rfl) (by simp only [go_sem] <;> rfl) ?_
  iterate 2 (refine Run.op (by simp only [go_sem, hpi, hreg, Bool.not_true, g1, g2, g3, g4, g5, List.take_length] <;> rfl) (by simp only [go_sem] <;> rfl) ?_)
  iterate 2 (refine Run.yes (by simp only [go_sem] <;> rfl) (by simp only [go_sem] <;> rfl) (by simp only [go_sem] <;> rfl) ?_)
  refine Run.yes (by simp only [go_sem] <;> rfl) (by simp only [go_sem, hpi, hreg, Bool.not_true, g1, g2, g3, g4, g5, List.take_length]; (try simp (disch := omega) only [IntWalk.i64_in, IntWalk.u64_in, if_neg, if_pos])<;> rfl) (by simp only [go_sem] <;> rfl) ?_
  refine Run.yes (by simp only [go_sem] <;> rfl) (by simp only [go_sem] <;> rfl) (by simp only [go_sem] <;> rfl) ?_
  refine Run.yes (by simp only [go_sem] <;> rfl) (by simp only [go_sem, hpi, hreg, Bool.not_true, g1, g2, g3, g4, g5, List.take_length] <;> rfl) (by simp only [go_sem] <;> rfl) ?_
  refine Run.op (by simp only [go_sem, hpi, hreg, Bool.not_true, g1, g2, g3, g4, g5, List.take_length] <;> rfl) (by simp only [go_sem] <;> rfl) ?_
  refine Run.nil ?_
  refine Exec.cndS (by simp only [go_sem, hpi, hreg, Bool.not_true, g1, g2, g3, g4, g5, List.take_length] <;> rfl) (fun hb119 => ?_) (fun hb119 => ?_)
  · exact absurd hb119 (by simp)
  refine Exec.skipS ?_
  refine Exec.reg ?_
  refine Run.frz 5 (by simp only [go_sem] <;> rfl) ?_
  refine Run.op (by simp only [go_sem, hpi, hreg, Bool.not_true, g1, g2, g3, g4, g5, List.take_length] <;> rfl) (by simp only [go_sem] <;> rfl) ?_
  refine Run.op (by simp only [go_sem] <;> rfl) (by simp only [go_sem] <;> rfl) ?_
  refine Run.nil ?_
  refine Exec.assocS ?_
  by_cases hup : (uS l).up = true
  · skip
    obtain ⟨u1, u2, u3⟩ := pulse_up at_ r.start l hup
    have hsu := up_sum l hup
    have hub1 : 0 ≤ untilI at_ (r.start + sumD l) ∧ untilI at_ (r.start + sumD l) ≤ 100000000000000 := by unfold untilI; omega
    have hub3 : 0 ≤ untilI at_ r.start ∧ untilI at_ r.start ≤ 100000000000000 := by unfold untilI; omega
    refine Exec.opk 20 ?_
    refine OpenK.op (by simp only [go_sem] <;> rfl) (by simp only [go_sem] <;> rfl) (by simp only [go_sem] <;> rfl) ?_
    refine OpenK.op (by simp only [go_sem, hpi, hreg, Bool.not_true, g1, g2, g3, g4, g5, List.take_length, hup, u1, ← u2] <;> rfl) (by simp only [go_sem] <;> rfl) (by simp only [go_sem] <;> rfl) ?_
    iterate 2 (refine OpenK.yes (by simp only [go_sem] <;> rfl) (by simp only [go_sem] <;> rfl) (by simp only [go_sem] <;> rfl) (by simp only [go_sem] <;> rfl) ?_)
    iterate 2 (refine OpenK.yes (by simp only [go_sem] <;> rfl) (by simp only [go_sem, hpi, hreg, Bool.not_true, g1, g2, g3, g4, g5, List.take_length, hup, u1, ← u2] <;> rfl) (by simp only [go_sem] <;> rfl) (by simp only [go_sem] <;> rfl) ?_)
    iterate 3 (refine OpenK.yes (by simp only [go_sem] <;> rfl) (by simp only [go_sem] <;> rfl) (by simp only [go_sem] <;> rfl) (by simp only [go_sem] <;> rfl) ?_)
    refine OpenK.calw (by simp only [go_sem] <;> rfl) (c_until (r.start + sumD l) at_ (by omega) hat) (by simp only [go_sem]) (by simp only [go_sem, hpi, hreg, Bool.not_true, g1, g2, g3, g4, g5, List.take_length, hup, u1, ← u2] <;> rfl) (by simp only [go_sem, hpi, hreg, Bool.not_true, g1, g2, g3, g4, g5, List.take_length, hup, u1, ← u2] <;> rfl) (by exact ⟨by first | exact WkR.pure rfl | exact WkR.nil _ | exact WkR.int (by first | omega | (simp; done) | (simp; omega)), by first | exact WkR.pure rfl | exact WkR.nil _ | exact WkR.int (by first | omega | (simp; done) | (simp; omega)), trivial⟩) (fr0) (by simp only [go_sem, hpi, hreg, Bool.not_true, g1, g2, g3, g4, g5, List.take_length, hup, u1, ← u2] <;> rfl) (by simp only [go_sem] <;> rfl) (by simp only [go_sem] <;> rfl) ?_
    iterate 2 (refine OpenK.yes (by simp only [go_sem] <;> rfl) (by simp only [go_sem] <;> rfl) (by simp only [go_sem] <;> rfl) (by simp only [go_sem] <;> rfl) ?_)
    refine OpenK.yes (by simp only [go_sem] <;> rfl) (by simp only [go_sem, hpi, hreg, Bool.not_true, g1, g2, g3, g4, g5, List.take_length, hup, u1, ← u2] <;> rfl) (by simp only [go_sem] <;> rfl) (by simp only [go_sem] <;> rfl) ?_
    refine OpenK.calw (by simp only [go_sem] <;> rfl) (c_until r.start at_ (by omega) hat) (by simp only [go_sem]) (by simp only [go_sem, hpi, hreg, Bool.not_true, g1, g2, g3, g4, g5, List.take_length, hup, u1, ← u2] <;> rfl) (by simp only [go_sem, hpi, hreg, Bool.not_true, g1, g2, g3, g4, g5, List.take_length, hup, u1, ← u2] <;> rfl) (by exact ⟨by first | exact WkR.pure rfl | exact WkR.nil _ | exact WkR.int (by first | omega | (simp; done) | (simp; omega)), by first | exact WkR.pure rfl | exact WkR.nil _ | exact WkR.int (by first | omega | (simp; done) | (simp; omega)), trivial⟩) (fr0) (by simp only [go_sem, hpi, hreg, Bool.not_true, g1, g2, g3, g4, g5, List.take_length, hup, u1, ← u2] <;> rfl) (by simp only [go_sem] <;> rfl) (by simp only [go_sem] <;> rfl) ?_
    refine OpenK.yes (by simp only [go_sem] <;> rfl) (by simp only [go_sem, hpi, hreg, Bool.not_true, g1, g2, g3, g4, g5, List.take_length, hup, u1, ← u2]; (try simp (disch := omega) only [IntWalk.i64_in, IntWalk.u64_in, if_neg, if_pos])<;> rfl) (by simp only [go_sem] <;> rfl) (by simp only [go_sem] <;> rfl) ?_
    iterate 2 (refine OpenK.yes (by simp only [go_sem] <;> rfl) (by simp only [go_sem, hpi, hreg, Bool.not_true, g1, g2, g3, g4, g5, List.take_length, hup, u1, ← u2] <;> rfl) (by simp only [go_sem] <;> rfl) (by simp only [go_sem] <;> rfl) ?_)
    refine OpenK.op (by simp only [go_sem, hpi, hreg, Bool.not_true, g1, g2, g3, g4, g5, List.take_length, hup, u1, ← u2] <;> rfl) (by simp only [go_sem] <;> rfl) (by simp only [go_sem] <;> rfl) ?_
    refine OpenK.nil (OpenE.finT (by kernel_rfl) (by kernel_rfl) (by kernel_rfl) ?_)
    refine Exec.cndS (by simp only [go_sem, hpi, hreg, Bool.not_true, g1, g2, g3, g4, g5, List.take_length, hup, u1, ← u2] <;> rfl) (fun hb138 => ?_) (fun hb138 => ?_)
    · exact absurd hb138 (by simp)
    refine Exec.skipS ?_
    refine Exec.assocS ?_
    by_cases hx32 : (l.length : Int) ≥ 32
    · skip
      have g10 : decide ((l.length : Int) ≥ 32) = true := decide_eq_true hx32
      refine Exec.reg ?_
      refine Run.op (by simp only [go_sem] <;> rfl) (by simp only [go_sem] <;> rfl) ?_
      iterate 3 (refine Run.op (by simp only [go_sem, hpi, hreg, Bool.not_true, g1, g2, g3, g4, g5, List.take_length, hup, u1, ← u2, g10] <;> rfl) (by simp only [go_sem] <;> rfl) ?_)
      iterate 3 (refine Run.skp (by simp only [go_sem] <;> rfl) (by simp only [go_sem] <;> rfl) ?_)
      iterate 2 (refine Run.op (by simp only [go_sem, hpi, hreg, Bool.not_true, g1, g2, g3, g4, g5, List.take_length, hup, u1, ← u2, g10] <;> rfl) (by simp only [go_sem] <;> rfl) ?_)
      iterate 7 (refine Run.skp (by simp only [go_sem] <;> rfl) (by simp only [go_sem] <;> rfl) ?_)
      refine Run.op (by simp only [go_sem, hpi, hreg, Bool.not_true, g1, g2, g3, g4, g5, List.take_length, hup, u1, ← u2, g10] <;> rfl) (by simp only [go_sem] <;> rfl) ?_
      refine Run.nil ?_
      refine Exec.cndS (by simp only [go_sem, hpi, hreg, Bool.not_true, g1, g2, g3, g4, g5, List.take_length, hup, u1, ← u2, g10] <;> rfl) (fun hb155 => ?_) (fun hb155 => ?_)
      · skip
        refine Exec.assocS ?_
        refine Exec.reg ?_
        refine Run.cal (c_law_awake) (by simp only [go_sem]) (by simp only [go_sem, hpi, hreg, Bool.not_true, g1, g2, g3, g4, g5, List.take_length, hup, u1, ← u2, g10] <;> rfl) (by exact trivial) (fr0) (by simp only [go_sem, hpi, hreg, Bool.not_true, g1, g2, g3, g4, g5, List.take_length, hup, u1, ← u2, g10] <;> rfl) ?_
        refine Run.op (by simp only [go_sem] <;> rfl) (by simp only [go_sem] <;> rfl) ?_
        refine Run.nil ?_
        refine Exec.retS ?_
        exact Ends.fin [] (rs := [.tmp 6]) rfl (by simp only [go_sem, hpi, hreg, Bool.not_true, g1, g2, g3, g4, g5, List.take_length, hup, u1, ← u2, g10] <;> rfl) (by simp only [go_sem, hpi, hreg, Bool.not_true, g1, g2, g3, g4, g5, List.take_length, hup, u1, ← u2, g10] <;> first | rfl | ((repeat' (first | with_reducible_and_instances rfl | refine st_eq ?_ ?_ ?_ | refine ret_eq ?_ | refine tup_eq ?_ | refine tm_eq ?_ ?_ | refine arr_eq ?_ | refine cells_eq ?_ | refine val_eq ?_ | refine ls_eq ?_ ?_ | refine own_eq ?_ ?_ | refine sl_eq ?_ | refine b_eq ?_ | (refine i_eq ?_; omega))); done))
      · exact absurd hb155 (by simp)
    have g10 : decide ((l.length : Int) ≥ 32) = false := decide_eq_false hx32
    by_cases hnil : l = []
    · skip
      have g11 : ((l.length : Int) == 0) = true := by rw [hnil]; rfl
      refine Exec.reg ?_
      refine Run.op (by simp only [go_sem] <;> rfl) (by simp only [go_sem] <;> rfl) ?_
      iterate 3 (refine Run.op (by simp only [go_sem, hpi, hreg, Bool.not_true, g1, g2, g3, g4, g5, List.take_length, hup, u1, ← u2, g10, g11] <;> rfl) (by simp only [go_sem] <;> rfl) ?_)
      refine Run.yes (by simp only [go_sem] <;> rfl) (by simp only [go_sem] <;> rfl) (by simp only [go_sem] <;> rfl) ?_
      iterate 2 (refine Run.yes (by simp only [go_sem] <;> rfl) (by simp only [go_sem, hpi, hreg, Bool.not_true, g1, g2, g3, g4, g5, List.take_length, hup, u1, ← u2, g10, g11] <;> rfl) (by simp only [go_sem] <;> rfl) ?_)
      iterate 2 (refine Run.op (by simp only [go_sem, hpi, hreg, Bool.not_true, g1, g2, g3, g4, g5, List.take_length, hup, u1, ← u2, g10, g11] <;> rfl) (by simp only [go_sem] <;> rfl) ?_)
      iterate 7 (refine Run.skp (by simp only [go_sem] <;> rfl) (by simp only [go_sem] <;> rfl) ?_)
      refine Run.op (by simp only [go_sem, hpi, hreg, Bool.not_true, g1, g2, g3, g4, g5, List.take_length, hup, u1, ← u2, g10, g11] <;> rfl) (by simp only [go_sem] <;> rfl) ?_
      refine Run.nil ?_
      refine Exec.cndS (by simp only [go_sem, hpi, hreg, Bool.not_true, g1, g2, g3, g4, g5, List.take_length, hup, u1, ← u2, g10, g11] <;> rfl) (fun hb155 => ?_) (fun hb155 => ?_)
      · skip
        refine Exec.assocS ?_
        refine Exec.reg ?_
        refine Run.cal (c_law_awake) (by simp only [go_sem]) (by simp only [go_sem, hpi, hreg, Bool.not_true, g1, g2, g3, g4, g5, List.take_length, hup, u1, ← u2, g10, g11] <;> rfl) (by exact trivial) (fr0) (by simp only [go_sem, hpi, hreg, Bool.not_true, g1, g2, g3, g4, g5, List.take_length, hup, u1, ← u2, g10, g11] <;> rfl) ?_
        refine Run.op (by simp only [go_sem] <;> rfl) (by simp only [go_sem] <;> rfl) ?_
        refine Run.nil ?_
        refine Exec.retS ?_
        exact Ends.fin [] (rs := [.tmp 6]) rfl (by simp only [go_sem, hpi, hreg, Bool.not_true, g1, g2, g3, g4, g5, List.take_length, hup, u1, ← u2, g10, g11] <;> rfl) (by simp only [go_sem, hpi, hreg, Bool.not_true, g1, g2, g3, g4, g5, List.take_length, hup, u1, ← u2, g10, g11] <;> first | rfl | ((repeat' (first | with_reducible_and_instances rfl | refine st_eq ?_ ?_ ?_ | refine ret_eq ?_ | refine tup_eq ?_ | refine tm_eq ?_ ?_ | refine arr_eq ?_ | refine cells_eq ?_ | refine val_eq ?_ | refine ls_eq ?_ ?_ | refine own_eq ?_ ?_ | refine sl_eq ?_ | refine b_eq ?_ | (refine i_eq ?_; omega))); done))
      · exact absurd hb155 (by simp)
    obtain ⟨l0, z, hlz⟩ : ∃ l0 z, l = l0 ++ [z] := by
      rcases snoc_cases l with h | h
      · exact absurd h hnil
      · exact h
    subst hlz
    have hl01 : l0.length + 1 ≤ 1000 := by simpa using hl
    have g11 : ((((l0.length + 1 : Nat) : Int)) == 0) = false := by rw [beq_eq_false_iff_ne]; omega
    have t4 : (((l0.length + 1 : Nat) : Int) - 1).toNat = l0.length := by omega
    have hgz : (l0 ++ [z])[l0.length]? = some z := by simp
    have g12 : decide (((l0.length + 1 : Nat) : Int) ≥ 32) = false := decide_eq_false (by simp at hx32; omega)
    refine Exec.reg ?_
    refine Run.op (by simp only [go_sem] <;> rfl) (by simp only [go_sem] <;> rfl) ?_
    iterate 3 (refine Run.op (by simp only [go_sem, hpi, hreg, Bool.not_true, g1, g2, g3, g4, g5, List.take_length, hup, u1, ← u2, g10, g11, t4, hgz, g12] <;> rfl) (by simp only [go_sem] <;> rfl) ?_)
    refine Run.yes (by simp only [go_sem] <;> rfl) (by simp only [go_sem] <;> rfl) (by simp only [go_sem] <;> rfl) ?_
    iterate 2 (refine Run.yes (by simp only [go_sem] <;> rfl) (by simp only [go_sem, hpi, hreg, Bool.not_true, g1, g2, g3, g4, g5, List.take_length, hup, u1, ← u2, g10, g11, t4, hgz, g12] <;> rfl) (by simp only [go_sem] <;> rfl) ?_)
    iterate 2 (refine Run.op (by simp only [go_sem, hpi, hreg, Bool.not_true, g1, g2, g3, g4, g5, List.take_length, hup, u1, ← u2, g10, g11, t4, hgz, g12] <;> rfl) (by simp only [go_sem] <;> rfl) ?_)
    iterate 2 (refine Run.yes (by simp only [go_sem] <;> rfl) (by simp only [go_sem] <;> rfl) (by simp only [go_sem] <;> rfl) ?_)
    refine Run.yes (by simp only [go_sem] <;> rfl) (by simp only [go_sem, hpi, hreg, Bool.not_true, g1, g2, g3, g4, g5, List.take_length, hup, u1, ← u2, g10, g11, t4, hgz, g12] <;> rfl) (by simp only [go_sem] <;> rfl) ?_
    refine Run.yes (by simp only [go_sem] <;> rfl) (by simp only [go_sem, hpi, hreg, Bool.not_true, g1, g2, g3, g4, g5, List.take_length, hup, u1, ← u2, g10, g11, t4, hgz, g12]; (try simp (disch := omega) only [IntWalk.i64_in, IntWalk.u64_in, if_neg, if_pos])<;> rfl) (by simp only [go_sem] <;> rfl) ?_
    refine Run.yes (by simp only [go_sem] <;> rfl) (by simp only [go_sem, hpi, hreg, Bool.not_true, g1, g2, g3, g4, g5, List.take_length, hup, u1, ← u2, g10, g11, t4, hgz, g12]; (try simp (disch := omega) only [if_pos]); (try simp only [go_sem, hpi, hreg, Bool.not_true, g1, g2, g3, g4, g5, List.take_length, hup, u1, ← u2, g10, g11, t4, hgz, g12])<;> rfl) (by simp only [go_sem] <;> rfl) ?_
    iterate 2 (refine Run.yes (by simp only [go_sem] <;> rfl) (by simp only [go_sem, hpi, hreg, Bool.not_true, g1, g2, g3, g4, g5, List.take_length, hup, u1, ← u2, g10, g11, t4, hgz, g12] <;> rfl) (by simp only [go_sem] <;> rfl) ?_)
    refine Run.op (by simp only [go_sem, hpi, hreg, Bool.not_true, g1, g2, g3, g4, g5, List.take_length, hup, u1, ← u2, g10, g11, t4, hgz, g12] <;> rfl) (by simp only [go_sem] <;> rfl) ?_
    refine Run.nil ?_
    refine Exec.cndS (by simp only [go_sem, hpi, hreg, Bool.not_true, g1, g2, g3, g4, g5, List.take_length, hup, u1, ← u2, g10, g11, t4, hgz, g12] <;> rfl) (fun hb155 => ?_) (fun hb155 => ?_)
    · skip
      refine Exec.assocS ?_
      refine Exec.reg ?_
      refine Run.cal (c_law_awake) (by simp only [go_sem]) (by simp only [go_sem, hpi, hreg, Bool.not_true, g1, g2, g3, g4, g5, List.take_length, hup, u1, ← u2, g10, g11, t4, hgz, g12] <;> rfl) (by exact trivial) (fr0) (by simp only [go_sem, hpi, hreg, Bool.not_true, g1, g2, g3, g4, g5, List.take_length, hup, u1, ← u2, g10, g11, t4, hgz, g12] <;> rfl) ?_
      refine Run.op (by simp only [go_sem] <;> rfl) (by simp only [go_sem] <;> rfl) ?_
      refine Run.nil ?_
      refine Exec.retS ?_
      exact Ends.fin [] (rs := [.tmp 6]) rfl (by simp only [go_sem, hpi, hreg, Bool.not_true, g1, g2, g3, g4, g5, List.take_length, hup, u1, ← u2, g10, g11, t4, hgz, g12] <;> rfl) (by simp only [go_sem, hpi, hreg, Bool.not_true, g1, g2, g3, g4, g5, List.take_length, hup, u1, ← u2, g10, g11, t4, hgz, g12] <;> first | rfl | ((repeat' (first | with_reducible_and_instances rfl | refine st_eq ?_ ?_ ?_ | refine ret_eq ?_ | refine tup_eq ?_ | refine tm_eq ?_ ?_ | refine arr_eq ?_ | refine cells_eq ?_ | refine val_eq ?_ | refine ls_eq ?_ ?_ | refine own_eq ?_ ?_ | refine sl_eq ?_ | refine b_eq ?_ | (refine i_eq ?_; omega))); done))
    have hz0 : 0 < z := by have := of_decide_eq_false hb155; omega
    have he0 : errD r l0 = 0 := err_take he
    have hl1 : l0.length + 1 ≤ 31 := by have := hx32; simp at this; omega
    have hzb := hlb z (by simp)
    have heb : errD r (l0 ++ [z] ++ [-z]) = 0 := err_app he (by simp; omega) (fun n hn => by rw [List.mem_singleton.1 hn]; omega)
    have hp0 := pul_is he0 hin
    have hpb2 : pulsesR r (l0 ++ [z] ++ [0 - z]) at_ = ((pS at_ r.start (l0 ++ [z] ++ [-z])).ct, (pS at_ r.start (l0 ++ [z] ++ [-z])).all, 0) := by rw [show (0 - z) = -z by omega]; exact pul_is heb hin
    have bb := pulse_back at_ r.start l0 hz0
    have hm0 := step_all at_ (pS at_ r.start l0) z
    rw [← pS_snoc] at hm0
    have hbb := pS_bnd at_ heb
    have hb0 := pS_bnd at_ he0
    have g6 : decide ((pS at_ r.start l0).ct ≤ (pS at_ r.start (l0 ++ [z])).ct) = true := decide_eq_true (by omega)
    have g6b : decide ((pS at_ r.start l0).ct ≤ (pS at_ r.start (l0 ++ [z])).all) = true := decide_eq_true (by omega)
    have g7 : decide ((pS at_ r.start (l0 ++ [z] ++ [-z])).all - (pS at_ r.start (l0 ++ [z])).all - ((pS at_ r.start (l0 ++ [z])).all - (pS at_ r.start l0).all) ≥ -1) = true := decide_eq_true (by omega)
    have g8 : decide ((pS at_ r.start (l0 ++ [z] ++ [-z])).all - (pS at_ r.start (l0 ++ [z])).all - ((pS at_ r.start (l0 ++ [z])).all - (pS at_ r.start l0).all) ≤ 1) = true := decide_eq_true (by omega)
    have t5 : (((l0.length + 1 : Nat) : Int) - 1).toNat = l0.length := by omega
    have hsl : List.drop (Int.toNat 0) (List.take l0.length (List.map encInt (l0 ++ [z]))) = l0.map encInt := by simp
    refine Exec.skipS ?_
    refine Exec.opk 17 ?_
    refine OpenK.op (by simp only [go_sem, hpi, hreg, Bool.not_true, g1, g2, g3, g4, g5, List.take_length, hup, u1, ← u2, g10, g11, t4, hgz, g12, hp0, hpb2, g6, g6b, g7, g8, t5, hsl] <;> rfl) (by simp only [go_sem] <;> rfl) (by simp only [go_sem] <;> rfl) ?_
    iterate 2 (refine OpenK.op (by simp only [go_sem] <;> rfl) (by simp only [go_sem] <;> rfl) (by simp only [go_sem] <;> rfl) ?_)
    refine OpenK.op (by simp only [go_sem, hpi, hreg, Bool.not_true, g1, g2, g3, g4, g5, List.take_length, hup, u1, ← u2, g10, g11, t4, hgz, g12, hp0, hpb2, g6, g6b, g7, g8, t5, hsl] <;> rfl) (by simp only [go_sem] <;> rfl) (by simp only [go_sem] <;> rfl) ?_
    refine OpenK.op (by simp only [go_sem, hpi, hreg, Bool.not_true, g1, g2, g3, g4, g5, List.take_length, hup, u1, ← u2, g10, g11, t4, hgz, g12, hp0, hpb2, g6, g6b, g7, g8, t5, hsl]; (try simp (disch := omega) only [IntWalk.i64_in, IntWalk.u64_in, if_neg, if_pos])<;> rfl) (by simp only [go_sem] <;> rfl) (by simp only [go_sem] <;> rfl) ?_
    refine OpenK.op (by simp only [go_sem, hpi, hreg, Bool.not_true, g1, g2, g3, g4, g5, List.take_length, hup, u1, ← u2, g10, g11, t4, hgz, g12, hp0, hpb2, g6, g6b, g7, g8, t5, hsl]; (try simp (disch := omega) only [if_pos]); (try simp only [go_sem, hpi, hreg, Bool.not_true, g1, g2, g3, g4, g5, List.take_length, hup, u1, ← u2, g10, g11, t4, hgz, g12, hp0, hpb2, g6, g6b, g7, g8, t5, hsl])<;> rfl) (by simp only [go_sem] <;> rfl) (by simp only [go_sem] <;> rfl) ?_
    refine OpenK.op (by simp only [go_sem, hpi, hreg, Bool.not_true, g1, g2, g3, g4, g5, List.take_length, hup, u1, ← u2, g10, g11, t4, hgz, g12, hp0, hpb2, g6, g6b, g7, g8, t5, hsl] <;> rfl) (by simp only [go_sem] <;> rfl) (by simp only [go_sem] <;> rfl) ?_
    refine OpenK.cal (c_drum_Pulses r l0 at_ (by simp at hl; omega)) (by simp only [go_sem]) (by simp only [go_sem, hpi, hreg, Bool.not_true, g1, g2, g3, g4, g5, List.take_length, hup, u1, ← u2, g10, g11, t4, hgz, g12, hp0, hpb2, g6, g6b, g7, g8, t5, hsl] <;> rfl) (by exact ⟨by first | exact WkR.pure rfl | exact WkR.nil _ | exact WkR.int (by first | omega | (simp; done) | (simp; omega)), by first | exact WkR.pure rfl | exact WkR.nil _ | exact WkR.int (by first | omega | (simp; done) | (simp; omega)), by first | exact WkR.pure rfl | exact WkR.nil _ | exact WkR.int (by first | omega | (simp; done) | (simp; omega)), trivial⟩) (fr0) (by simp only [go_sem, hpi, hreg, Bool.not_true, g1, g2, g3, g4, g5, List.take_length, hup, u1, ← u2, g10, g11, t4, hgz, g12, hp0, hpb2, g6, g6b, g7, g8, t5, hsl] <;> rfl) (by simp only [go_sem] <;> rfl) (by simp only [go_sem] <;> rfl) ?_
    refine OpenK.op (by simp only [go_sem] <;> rfl) (by simp only [go_sem] <;> rfl) (by simp only [go_sem] <;> rfl) ?_
    iterate 3 (refine OpenK.op (by simp only [go_sem, hpi, hreg, Bool.not_true, g1, g2, g3, g4, g5, List.take_length, hup, u1, ← u2, g10, g11, t4, hgz, g12, hp0, hpb2, g6, g6b, g7, g8, t5, hsl] <;> rfl) (by simp only [go_sem] <;> rfl) (by simp only [go_sem] <;> rfl) ?_)
    iterate 3 (refine OpenK.op (by simp only [go_sem] <;> rfl) (by simp only [go_sem] <;> rfl) (by simp only [go_sem] <;> rfl) ?_)
    refine OpenK.nil (OpenE.fin (by decide +kernel) (by decide +kernel) ?_)
    refine Exec.opk 24 ?_
    iterate 2 (refine OpenK.op (by simp only [go_sem, hpi, hreg, Bool.not_true, g1, g2, g3, g4, g5, List.take_length, hup, u1, ← u2, g10, g11, t4, hgz, g12, hp0, hpb2, g6, g6b, g7, g8, t5, hsl] <;> rfl) (by simp only [go_sem] <;> rfl) (by simp only [go_sem] <;> rfl) ?_)
    refine OpenK.op (by simp only [go_sem] <;> rfl) (by simp only [go_sem] <;> rfl) (by simp only [go_sem] <;> rfl) ?_
    refine OpenK.op (by simp only [go_sem, hpi, hreg, Bool.not_true, g1, g2, g3, g4, g5, List.take_length, hup, u1, ← u2, g10, g11, t4, hgz, g12, hp0, hpb2, g6, g6b, g7, g8, t5, hsl]; (try simp (disch := omega) only [if_pos]); (try simp only [go_sem, hpi, hreg, Bool.not_true, g1, g2, g3, g4, g5, List.take_length, hup, u1, ← u2, g10, g11, t4, hgz, g12, hp0, hpb2, g6, g6b, g7, g8, t5, hsl]) <;> first | (refine ite_run ⟨by (try simp only [List.length_append, List.length_drop, List.length_take, List.length_map, List.length_cons, List.length_nil, List.length_replicate, List.length_set, List.length_range, Nat.zero_add]); omega, by (try simp only [List.length_append, List.length_drop, List.length_take, List.length_map, List.length_cons, List.length_nil, List.length_replicate, List.length_set, List.length_range, Nat.zero_add]); omega, by repeat (first | exact al_nil | assumption | refine al_app ?_ ?_ | refine al_drop ?_ | refine al_take ?_ | exact al_map (fun _ => rfl) | exact al_rep rfl | refine al_cons rfl ?_)⟩ ?_; simp only [go_sem, hpi, hreg, Bool.not_true, g1, g2, g3, g4, g5, List.take_length, hup, u1, ← u2, g10, g11, t4, hgz, g12, hp0, hpb2, g6, g6b, g7, g8, t5, hsl] <;> rfl) | (refine ite_run ⟨by (try simp only [List.length_append, List.length_drop, List.length_take, List.length_map, List.length_cons, List.length_nil, List.length_replicate, List.length_set, List.length_range, Nat.zero_add]); omega, by repeat (first | exact al_nil | assumption | refine al_app ?_ ?_ | refine al_drop ?_ | refine al_take ?_ | exact al_map (fun _ => rfl) | exact al_rep rfl | refine al_cons rfl ?_)⟩ ?_; simp only [go_sem, hpi, hreg, Bool.not_true, g1, g2, g3, g4, g5, List.take_length, hup, u1, ← u2, g10, g11, t4, hgz, g12, hp0, hpb2, g6, g6b, g7, g8, t5, hsl] <;> rfl) | rfl) (by simp only [go_sem] <;> rfl) (by simp only [go_sem] <;> rfl) ?_
    iterate 2 (refine OpenK.op (by simp only [go_sem] <;> rfl) (by simp only [go_sem] <;> rfl) (by simp only [go_sem] <;> rfl) ?_)
    refine OpenK.op (by simp only [go_sem, hpi, hreg, Bool.not_true, g1, g2, g3, g4, g5, List.take_length, hup, u1, ← u2, g10, g11, t4, hgz, g12, hp0, hpb2, g6, g6b, g7, g8, t5, hsl] <;> rfl) (by simp only [go_sem] <;> rfl) (by simp only [go_sem] <;> rfl) ?_
    refine OpenK.op (by simp only [go_sem, hpi, hreg, Bool.not_true, g1, g2, g3, g4, g5, List.take_length, hup, u1, ← u2, g10, g11, t4, hgz, g12, hp0, hpb2, g6, g6b, g7, g8, t5, hsl]; (try simp (disch := omega) only [IntWalk.i64_in, IntWalk.u64_in, if_neg, if_pos])<;> rfl) (by simp only [go_sem] <;> rfl) (by simp only [go_sem] <;> rfl) ?_
    refine OpenK.op (by simp only [go_sem, hpi, hreg, Bool.not_true, g1, g2, g3, g4, g5, List.take_length, hup, u1, ← u2, g10, g11, t4, hgz, g12, hp0, hpb2, g6, g6b, g7, g8, t5, hsl]; (try simp (disch := omega) only [if_pos]); (try simp only [go_sem, hpi, hreg, Bool.not_true, g1, g2, g3, g4, g5, List.take_length, hup, u1, ← u2, g10, g11, t4, hgz, g12, hp0, hpb2, g6, g6b, g7, g8, t5, hsl])<;> rfl) (by simp only [go_sem] <;> rfl) (by simp only [go_sem] <;> rfl) ?_
    refine OpenK.op (by simp only [go_sem, hpi, hreg, Bool.not_true, g1, g2, g3, g4, g5, List.take_length, hup, u1, ← u2, g10, g11, t4, hgz, g12, hp0, hpb2, g6, g6b, g7, g8, t5, hsl] <;> rfl) (by simp only [go_sem] <;> rfl) (by simp only [go_sem] <;> rfl) ?_
    refine OpenK.op (by simp only [go_sem, hpi, hreg, Bool.not_true, g1, g2, g3, g4, g5, List.take_length, hup, u1, ← u2, g10, g11, t4, hgz, g12, hp0, hpb2, g6, g6b, g7, g8, t5, hsl]; (try simp (disch := omega) only [IntWalk.i64_in, IntWalk.u64_in, if_neg, if_pos])<;> rfl) (by simp only [go_sem] <;> rfl) (by simp only [go_sem] <;> rfl) ?_
    refine OpenK.op (by simp only [go_sem, hpi, hreg, Bool.not_true, g1, g2, g3, g4, g5, List.take_length, hup, u1, ← u2, g10, g11, t4, hgz, g12, hp0, hpb2, g6, g6b, g7, g8, t5, hsl] <;> rfl) (by simp only [go_sem] <;> rfl) (by simp only [go_sem] <;> rfl) ?_
    refine OpenK.op (by simp only [go_sem, hpi, hreg, Bool.not_true, g1, g2, g3, g4, g5, List.take_length, hup, u1, ← u2, g10, g11, t4, hgz, g12, hp0, hpb2, g6, g6b, g7, g8, t5, hsl]; (try simp (disch := omega) only [if_pos]); (try simp only [go_sem, hpi, hreg, Bool.not_true, g1, g2, g3, g4, g5, List.take_length, hup, u1, ← u2, g10, g11, t4, hgz, g12, hp0, hpb2, g6, g6b, g7, g8, t5, hsl]) <;> first | (refine ite_run ⟨by (try simp only [List.length_append, List.length_drop, List.length_take, List.length_map, List.length_cons, List.length_nil, List.length_replicate, List.length_set, List.length_range, Nat.zero_add]); omega, by (try simp only [List.length_append, List.length_drop, List.length_take, List.length_map, List.length_cons, List.length_nil, List.length_replicate, List.length_set, List.length_range, Nat.zero_add]); omega, by repeat (first | exact al_nil | assumption | refine al_app ?_ ?_ | refine al_drop ?_ | refine al_take ?_ | exact al_map (fun _ => rfl) | exact al_rep rfl | refine al_cons rfl ?_)⟩ ?_; simp only [go_sem, hpi, hreg, Bool.not_true, g1, g2, g3, g4, g5, List.take_length, hup, u1, ← u2, g10, g11, t4, hgz, g12, hp0, hpb2, g6, g6b, g7, g8, t5, hsl] <;> rfl) | (refine ite_run ⟨by (try simp only [List.length_append, List.length_drop, List.length_take, List.length_map, List.length_cons, List.length_nil, List.length_replicate, List.length_set, List.length_range, Nat.zero_add]); omega, by repeat (first | exact al_nil | assumption | refine al_app ?_ ?_ | refine al_drop ?_ | refine al_take ?_ | exact al_map (fun _ => rfl) | exact al_rep rfl | refine al_cons rfl ?_)⟩ ?_; simp only [go_sem, hpi, hreg, Bool.not_true, g1, g2, g3, g4, g5, List.take_length, hup, u1, ← u2, g10, g11, t4, hgz, g12, hp0, hpb2, g6, g6b, g7, g8, t5, hsl] <;> rfl) | rfl) (by simp only [go_sem] <;> rfl) (by simp only [go_sem] <;> rfl) ?_
    refine OpenK.op (by simp only [go_sem, hpi, hreg, Bool.not_true, g1, g2, g3, g4, g5, List.take_length, hup, u1, ← u2, g10, g11, t4, hgz, g12, hp0, hpb2, g6, g6b, g7, g8, t5, hsl] <;> rfl) (by simp only [go_sem] <;> rfl) (by simp only [go_sem] <;> rfl) ?_
    refine OpenK.lend 900 171 (by simp only [go_sem] <;> rfl) (c_Pulses_l r (l0 ++ [z] ++ [0 - z]) at_ (by simp at hl ⊢; omega)) (by simp only [go_sem]) (by simp only [go_sem] <;> rfl) (by simp only [go_sem] <;> rfl) (by simp only [go_sem, List.map_append] <;> rfl) (by exact ⟨WkR.pure rfl, WkR.of rfl (by simp only [go_sem] <;> rfl), WkR.pure rfl, trivial⟩) (by simp only [go_sem] <;> rfl) (by simp only [go_sem] <;> rfl) (by simp only [go_sem] <;> rfl) ?_
    refine OpenK.op (by simp only [go_sem] <;> rfl) (by simp only [go_sem] <;> rfl) (by simp only [go_sem] <;> rfl) ?_
    iterate 3 (refine OpenK.op (by simp only [go_sem, hpi, hreg, Bool.not_true, g1, g2, g3, g4, g5, List.take_length, hup, u1, ← u2, g10, g11, t4, hgz, g12, hp0, hpb2, g6, g6b, g7, g8, t5, hsl] <;> rfl) (by simp only [go_sem] <;> rfl) (by simp only [go_sem] <;> rfl) ?_)
    iterate 3 (refine OpenK.op (by simp only [go_sem] <;> rfl) (by simp only [go_sem] <;> rfl) (by simp only [go_sem] <;> rfl) ?_)
    refine OpenK.nil (OpenE.finT (by kernel_rfl) (by kernel_rfl) (by kernel_rfl) ?_)
    refine Exec.opk 17 ?_
    refine OpenK.op (by simp only [go_sem, hpi, hreg, Bool.not_true, g1, g2, g3, g4, g5, List.take_length, hup, u1, ← u2, g10, g11, t4, hgz, g12, hp0, hpb2, g6, g6b, g7, g8, t5, hsl] <;> rfl) (by simp only [go_sem] <;> rfl) (by simp only [go_sem] <;> rfl) ?_
    iterate 2 (refine OpenK.op (by simp only [go_sem] <;> rfl) (by simp only [go_sem] <;> rfl) (by simp only [go_sem] <;> rfl) ?_)
    refine OpenK.op (by simp only [go_sem, hpi, hreg, Bool.not_true, g1, g2, g3, g4, g5, List.take_length, hup, u1, ← u2, g10, g11, t4, hgz, g12, hp0, hpb2, g6, g6b, g7, g8, t5, hsl] <;> rfl) (by simp only [go_sem] <;> rfl) (by simp only [go_sem] <;> rfl) ?_
    refine OpenK.op (by simp only [go_sem, hpi, hreg, Bool.not_true, g1, g2, g3, g4, g5, List.take_length, hup, u1, ← u2, g10, g11, t4, hgz, g12, hp0, hpb2, g6, g6b, g7, g8, t5, hsl]; (try simp (disch := omega) only [IntWalk.i64_in, IntWalk.u64_in, if_neg, if_pos])<;> rfl) (by simp only [go_sem] <;> rfl) (by simp only [go_sem] <;> rfl) ?_
    refine OpenK.op (by simp only [go_sem, hpi, hreg, Bool.not_true, g1, g2, g3, g4, g5, List.take_length, hup, u1, ← u2, g10, g11, t4, hgz, g12, hp0, hpb2, g6, g6b, g7, g8, t5, hsl]; (try simp (disch := omega) only [if_pos]); (try simp only [go_sem, hpi, hreg, Bool.not_true, g1, g2, g3, g4, g5, List.take_length, hup, u1, ← u2, g10, g11, t4, hgz, g12, hp0, hpb2, g6, g6b, g7, g8, t5, hsl])<;> rfl) (by simp only [go_sem] <;> rfl) (by simp only [go_sem] <;> rfl) ?_
    refine OpenK.op (by simp only [go_sem, hpi, hreg, Bool.not_true, g1, g2, g3, g4, g5, List.take_length, hup, u1, ← u2, g10, g11, t4, hgz, g12, hp0, hpb2, g6, g6b, g7, g8, t5, hsl] <;> rfl) (by simp only [go_sem] <;> rfl) (by simp only [go_sem] <;> rfl) ?_
    refine OpenK.cal (c_drum_Pulses r l0 at_ (by simp at hl; omega)) (by simp only [go_sem]) (by simp only [go_sem, hpi, hreg, Bool.not_true, g1, g2, g3, g4, g5, List.take_length, hup, u1, ← u2, g10, g11, t4, hgz, g12, hp0, hpb2, g6, g6b, g7, g8, t5, hsl] <;> rfl) (by exact ⟨by first | exact WkR.pure rfl | exact WkR.nil _ | exact WkR.int (by first | omega | (simp; done) | (simp; omega)), by first | exact WkR.pure rfl | exact WkR.nil _ | exact WkR.int (by first | omega | (simp; done) | (simp; omega)), by first | exact WkR.pure rfl | exact WkR.nil _ | exact WkR.int (by first | omega | (simp; done) | (simp; omega)), trivial⟩) (fr0) (by simp only [go_sem, hpi, hreg, Bool.not_true, g1, g2, g3, g4, g5, List.take_length, hup, u1, ← u2, g10, g11, t4, hgz, g12, hp0, hpb2, g6, g6b, g7, g8, t5, hsl] <;> rfl) (by simp only [go_sem] <;> rfl) (by simp only [go_sem] <;> rfl) ?_
    refine OpenK.op (by simp only [go_sem] <;> rfl) (by simp only [go_sem] <;> rfl) (by simp only [go_sem] <;> rfl) ?_
    iterate 3 (refine OpenK.op (by simp only [go_sem, hpi, hreg, Bool.not_true, g1, g2, g3, g4, g5, List.take_length, hup, u1, ← u2, g10, g11, t4, hgz, g12, hp0, hpb2, g6, g6b, g7, g8, t5, hsl] <;> rfl) (by simp only [go_sem] <;> rfl) (by simp only [go_sem] <;> rfl) ?_)
    iterate 3 (refine OpenK.op (by simp only [go_sem] <;> rfl) (by simp only [go_sem] <;> rfl) (by simp only [go_sem] <;> rfl) ?_)
    refine OpenK.nil (OpenE.fin (by decide +kernel) (by decide +kernel) ?_)
    refine Exec.reg ?_
    iterate 2 (refine Run.op (by simp only [go_sem] <;> rfl) (by simp only [go_sem] <;> rfl) ?_)
    refine Run.op (by simp only [go_sem, hpi, hreg, Bool.not_true, g1, g2, g3, g4, g5, List.take_length, hup, u1, ← u2, g10, g11, t4, hgz, g12, hp0, hpb2, g6, g6b, g7, g8, t5, hsl]; (try simp (disch := omega) only [IntWalk.i64_in, IntWalk.u64_in, if_neg, if_pos])<;> rfl) (by simp only [go_sem] <;> rfl) ?_
    iterate 2 (refine Run.op (by simp only [go_sem] <;> rfl) (by simp only [go_sem] <;> rfl) ?_)
    refine Run.op (by simp only [go_sem, hpi, hreg, Bool.not_true, g1, g2, g3, g4, g5, List.take_length, hup, u1, ← u2, g10, g11, t4, hgz, g12, hp0, hpb2, g6, g6b, g7, g8, t5, hsl]; (try simp (disch := omega) only [IntWalk.i64_in, IntWalk.u64_in, if_neg, if_pos])<;> rfl) (by simp only [go_sem] <;> rfl) ?_
    iterate 2 (refine Run.op (by simp only [go_sem] <;> rfl) (by simp only [go_sem] <;> rfl) ?_)
    refine Run.nil ?_
    refine Exec.reg ?_
    refine Run.op (by simp only [go_sem] <;> rfl) (by simp only [go_sem] <;> rfl) ?_
    iterate 2 (refine Run.op (by simp only [go_sem, hpi, hreg, Bool.not_true, g1, g2, g3, g4, g5, List.take_length, hup, u1, ← u2, g10, g11, t4, hgz, g12, hp0, hpb2, g6, g6b, g7, g8, t5, hsl] <;> rfl) (by simp only [go_sem] <;> rfl) ?_)
    refine Run.yes (by simp only [go_sem] <;> rfl) (by simp only [go_sem] <;> rfl) (by simp only [go_sem] <;> rfl) ?_
    refine Run.yes (by simp only [go_sem] <;> rfl) (by simp only [go_sem, hpi, hreg, Bool.not_true, g1, g2, g3, g4, g5, List.take_length, hup, u1, ← u2, g10, g11, t4, hgz, g12, hp0, hpb2, g6, g6b, g7, g8, t5, hsl] <;> rfl) (by simp only [go_sem] <;> rfl) ?_
    iterate 2 (refine Run.op (by simp only [go_sem, hpi, hreg, Bool.not_true, g1, g2, g3, g4, g5, List.take_length, hup, u1, ← u2, g10, g11, t4, hgz, g12, hp0, hpb2, g6, g6b, g7, g8, t5, hsl] <;> rfl) (by simp only [go_sem] <;> rfl) ?_)
    refine Run.yes (by simp only [go_sem] <;> rfl) (by simp only [go_sem] <;> rfl) (by simp only [go_sem] <;> rfl) ?_
    refine Run.yes (by simp only [go_sem] <;> rfl) (by simp only [go_sem, hpi, hreg, Bool.not_true, g1, g2, g3, g4, g5, List.take_length, hup, u1, ← u2, g10, g11, t4, hgz, g12, hp0, hpb2, g6, g6b, g7, g8, t5, hsl] <;> rfl) (by simp only [go_sem] <;> rfl) ?_
    iterate 2 (refine Run.op (by simp only [go_sem, hpi, hreg, Bool.not_true, g1, g2, g3, g4, g5, List.take_length, hup, u1, ← u2, g10, g11, t4, hgz, g12, hp0, hpb2, g6, g6b, g7, g8, t5, hsl] <;> rfl) (by simp only [go_sem] <;> rfl) ?_)
    iterate 2 (refine Run.yes (by simp only [go_sem] <;> rfl) (by simp only [go_sem] <;> rfl) (by simp only [go_sem] <;> rfl) ?_)
    refine Run.yes (by simp only [go_sem] <;> rfl) (by simp only [go_sem, hpi, hreg, Bool.not_true, g1, g2, g3, g4, g5, List.take_length, hup, u1, ← u2, g10, g11, t4, hgz, g12, hp0, hpb2, g6, g6b, g7, g8, t5, hsl] <;> rfl) (by simp only [go_sem] <;> rfl) ?_
    iterate 2 (refine Run.op (by simp only [go_sem, hpi, hreg, Bool.not_true, g1, g2, g3, g4, g5, List.take_length, hup, u1, ← u2, g10, g11, t4, hgz, g12, hp0, hpb2, g6, g6b, g7, g8, t5, hsl] <;> rfl) (by simp only [go_sem] <;> rfl) ?_)
    iterate 2 (refine Run.yes (by simp only [go_sem] <;> rfl) (by simp only [go_sem] <;> rfl) (by simp only [go_sem] <;> rfl) ?_)
    refine Run.yes (by simp only [go_sem] <;> rfl) (by simp only [go_sem, hpi, hreg, Bool.not_true, g1, g2, g3, g4, g5, List.take_length, hup, u1, ← u2, g10, g11, t4, hgz, g12, hp0, hpb2, g6, g6b, g7, g8, t5, hsl]; (try simp (disch := omega) only [IntWalk.i64_in, IntWalk.u64_in, if_neg, if_pos])<;> rfl) (by simp only [go_sem] <;> rfl) ?_
    refine Run.yes (by simp only [go_sem] <;> rfl) (by simp only [go_sem, hpi, hreg, Bool.not_true, g1, g2, g3, g4, g5, List.take_length, hup, u1, ← u2, g10, g11, t4, hgz, g12, hp0, hpb2, g6, g6b, g7, g8, t5, hsl] <;> rfl) (by simp only [go_sem] <;> rfl) ?_
    iterate 2 (refine Run.op (by simp only [go_sem, hpi, hreg, Bool.not_true, g1, g2, g3, g4, g5, List.take_length, hup, u1, ← u2, g10, g11, t4, hgz, g12, hp0, hpb2, g6, g6b, g7, g8, t5, hsl] <;> rfl) (by simp only [go_sem] <;> rfl) ?_)
    iterate 2 (refine Run.yes (by simp only [go_sem] <;> rfl) (by simp only [go_sem] <;> rfl) (by simp only [go_sem] <;> rfl) ?_)
    refine Run.yes (by simp only [go_sem] <;> rfl) (by simp only [go_sem, hpi, hreg, Bool.not_true, g1, g2, g3, g4, g5, List.take_length, hup, u1, ← u2, g10, g11, t4, hgz, g12, hp0, hpb2, g6, g6b, g7, g8, t5, hsl]; (try simp (disch := omega) only [IntWalk.i64_in, IntWalk.u64_in, if_neg, if_pos])<;> rfl) (by simp only [go_sem] <;> rfl) ?_
    refine Run.yes (by simp only [go_sem] <;> rfl) (by simp only [go_sem, hpi, hreg, Bool.not_true, g1, g2, g3, g4, g5, List.take_length, hup, u1, ← u2, g10, g11, t4, hgz, g12, hp0, hpb2, g6, g6b, g7, g8, t5, hsl] <;> rfl) (by simp only [go_sem] <;> rfl) ?_
    iterate 2 (refine Run.op (by simp only [go_sem, hpi, hreg, Bool.not_true, g1, g2, g3, g4, g5, List.take_length, hup, u1, ← u2, g10, g11, t4, hgz, g12, hp0, hpb2, g6, g6b, g7, g8, t5, hsl] <;> rfl) (by simp only [go_sem] <;> rfl) ?_)
    refine Run.calw (by simp only [go_sem] <;> rfl) (c_law_awake) (by simp only [go_sem]) (by simp only [go_sem, hpi, hreg, Bool.not_true, g1, g2, g3, g4, g5, List.take_length, hup, u1, ← u2, g10, g11, t4, hgz, g12, hp0, hpb2, g6, g6b, g7, g8, t5, hsl] <;> rfl) (by simp only [go_sem, hpi, hreg, Bool.not_true, g1, g2, g3, g4, g5, List.take_length, hup, u1, ← u2, g10, g11, t4, hgz, g12, hp0, hpb2, g6, g6b, g7, g8, t5, hsl] <;> rfl) (by exact trivial) (fr0) (by simp only [go_sem, hpi, hreg, Bool.not_true, g1, g2, g3, g4, g5, List.take_length, hup, u1, ← u2, g10, g11, t4, hgz, g12, hp0, hpb2, g6, g6b, g7, g8, t5, hsl] <;> rfl) ?_
    refine Run.op (by simp only [go_sem, hpi, hreg, Bool.not_true, g1, g2, g3, g4, g5, List.take_length, hup, u1, ← u2, g10, g11, t4, hgz, g12, hp0, hpb2, g6, g6b, g7, g8, t5, hsl] <;> rfl) (by simp only [go_sem] <;> rfl) ?_
    refine Run.op (by simp only [go_sem] <;> rfl) (by simp only [go_sem] <;> rfl) ?_
    refine Run.nil ?_
    exact Ends.fin [] (rs := [.tmp 6]) rfl (by simp only [go_sem, hpi, hreg, Bool.not_true, g1, g2, g3, g4, g5, List.take_length, hup, u1, ← u2, g10, g11, t4, hgz, g12, hp0, hpb2, g6, g6b, g7, g8, t5, hsl] <;> rfl) (by simp only [go_sem, hpi, hreg, Bool.not_true, g1, g2, g3, g4, g5, List.take_length, hup, u1, ← u2, g10, g11, t4, hgz, g12, hp0, hpb2, g6, g6b, g7, g8, t5, hsl] <;> first | rfl | ((repeat' (first | with_reducible_and_instances rfl | refine st_eq ?_ ?_ ?_ | refine ret_eq ?_ | refine tup_eq ?_ | refine tm_eq ?_ ?_ | refine arr_eq ?_ | refine cells_eq ?_ | refine val_eq ?_ | refine ls_eq ?_ ?_ | refine own_eq ?_ ?_ | refine sl_eq ?_ | refine b_eq ?_ | (refine i_eq ?_; omega))); done))
  have hup2 : (uS l).up = false := by simpa using hup
  refine Exec.opk 20 ?_
  refine OpenK.op (by simp only [go_sem] <;> rfl) (by simp only [go_sem] <;> rfl) (by simp only [go_sem] <;> rfl) ?_
  refine OpenK.op (by simp only [go_sem, hpi, hreg, Bool.not_true, g1, g2, g3, g4, g5, List.take_length, hup2] <;> rfl) (by simp only [go_sem] <;> rfl) (by simp only [go_sem] <;> rfl) ?_
  iterate 15 (refine OpenK.skp (by simp only [go_sem] <;> rfl) (by simp only [go_sem] <;> rfl) (by simp only [go_sem] <;> rfl) ?_)
  refine OpenK.op (by simp only [go_sem, hpi, hreg, Bool.not_true, g1, g2, g3, g4, g5, List.take_length, hup2] <;> rfl) (by simp only [go_sem] <;> rfl) (by simp only [go_sem] <;> rfl) ?_
  refine OpenK.nil (OpenE.finT (by kernel_rfl) (by kernel_rfl) (by kernel_rfl) ?_)
  refine Exec.cndS (by simp only [go_sem, hpi, hreg, Bool.not_true, g1, g2, g3, g4, g5, List.take_length, hup2] <;> rfl) (fun hb138 => ?_) (fun hb138 => ?_)
  · exact absurd hb138 (by simp)
  refine Exec.skipS ?_
  refine Exec.assocS ?_
  by_cases hx32 : (l.length : Int) ≥ 32
  · skip
    have g10 : decide ((l.length : Int) ≥ 32) = true := decide_eq_true hx32
    refine Exec.reg ?_
    refine Run.op (by simp only [go_sem] <;> rfl) (by simp only [go_sem] <;> rfl) ?_
    iterate 3 (refine Run.op (by simp only [go_sem, hpi, hreg, Bool.not_true, g1, g2, g3, g4, g5, List.take_length, hup2, g10] <;> rfl) (by simp only [go_sem] <;> rfl) ?_)
    iterate 3 (refine Run.skp (by simp only [go_sem] <;> rfl) (by simp only [go_sem] <;> rfl) ?_)
    iterate 2 (refine Run.op (by simp only [go_sem, hpi, hreg, Bool.not_true, g1, g2, g3, g4, g5, List.take_length, hup2, g10] <;> rfl) (by simp only [go_sem] <;> rfl) ?_)
    iterate 7 (refine Run.skp (by simp only [go_sem] <;> rfl) (by simp only [go_sem] <;> rfl) ?_)
    refine Run.op (by simp only [go_sem, hpi, hreg, Bool.not_true, g1, g2, g3, g4, g5, List.take_length, hup2, g10] <;> rfl) (by simp only [go_sem] <;> rfl) ?_
    refine Run.nil ?_
    refine Exec.cndS (by simp only [go_sem, hpi, hreg, Bool.not_true, g1, g2, g3, g4, g5, List.take_length, hup2, g10] <;> rfl) (fun hb155 => ?_) (fun hb155 => ?_)
    · skip
      refine Exec.assocS ?_
      refine Exec.reg ?_
      refine Run.cal (c_law_awake) (by simp only [go_sem]) (by simp only [go_sem, hpi, hreg, Bool.not_true, g1, g2, g3, g4, g5, List.take_length, hup2, g10] <;> rfl) (by exact trivial) (fr0) (by simp only [go_sem, hpi, hreg, Bool.not_true, g1, g2, g3, g4, g5, List.take_length, hup2, g10] <;> rfl) ?_
      refine Run.op (by simp only [go_sem] <;> rfl) (by simp only [go_sem] <;> rfl) ?_
      refine Run.nil ?_
      refine Exec.retS ?_
      exact Ends.fin [] (rs := [.tmp 6]) rfl (by simp only [go_sem, hpi, hreg, Bool.not_true, g1, g2, g3, g4, g5, List.take_length, hup2, g10] <;> rfl) (by simp only [go_sem, hpi, hreg, Bool.not_true, g1, g2, g3, g4, g5, List.take_length, hup2, g10] <;> first | rfl | ((repeat' (first | with_reducible_and_instances rfl | refine st_eq ?_ ?_ ?_ | refine ret_eq ?_ | refine tup_eq ?_ | refine tm_eq ?_ ?_ | refine arr_eq ?_ | refine cells_eq ?_ | refine val_eq ?_ | refine ls_eq ?_ ?_ | refine own_eq ?_ ?_ | refine sl_eq ?_ | refine b_eq ?_ | (refine i_eq ?_; omega))); done))
    · exact absurd hb155 (by simp)
  have g10 : decide ((l.length : Int) ≥ 32) = false := decide_eq_false hx32
  by_cases hnil : l = []
  · skip
    have g11 : ((l.length : Int) == 0) = true := by rw [hnil]; rfl
    refine Exec.reg ?_
    refine Run.op (by simp only [go_sem] <;> rfl) (by simp only [go_sem] <;> rfl) ?_
    iterate 3 (refine Run.op (by simp only [go_sem, hpi, hreg, Bool.not_true, g1, g2, g3, g4, g5, List.take_length, hup2, g10, g11] <;> rfl) (by simp only [go_sem] <;> rfl) ?_)
    refine Run.yes (by simp only [go_sem] <;> rfl) (by simp only [go_sem] <;> rfl) (by simp only [go_sem] <;> rfl) ?_
    iterate 2 (refine Run.yes (by simp only [go_sem] <;> rfl) (by simp only [go_sem, hpi, hreg, Bool.not_true, g1, g2, g3, g4, g5, List.take_length, hup2, g10, g11] <;> rfl) (by simp only [go_sem] <;> rfl) ?_)
    iterate 2 (refine Run.op (by simp only [go_sem, hpi, hreg, Bool.not_true, g1, g2, g3, g4, g5, List.take_length, hup2, g10, g11] <;> rfl) (by simp only [go_sem] <;> rfl) ?_)
    iterate 7 (refine Run.skp (by simp only [go_sem] <;> rfl) (by simp only [go_sem] <;> rfl) ?_)
    refine Run.op (by simp only [go_sem, hpi, hreg, Bool.not_true, g1, g2, g3, g4, g5, List.take_length, hup2, g10, g11] <;> rfl) (by simp only [go_sem] <;> rfl) ?_
    refine Run.nil ?_
    refine Exec.cndS (by simp only [go_sem, hpi, hreg, Bool.not_true, g1, g2, g3, g4, g5, List.take_length, hup2, g10, g11] <;> rfl) (fun hb155 => ?_) (fun hb155 => ?_)
    · skip
      refine Exec.assocS ?_
      refine Exec.reg ?_
      refine Run.cal (c_law_awake) (by simp only [go_sem]) (by simp only [go_sem, hpi, hreg, Bool.not_true, g1, g2, g3, g4, g5, List.take_length, hup2, g10, g11] <;> rfl) (by exact trivial) (fr0) (by simp only [go_sem, hpi, hreg, Bool.not_true, g1, g2, g3, g4, g5, List.take_length, hup2, g10, g11] <;> rfl) ?_
      refine Run.op (by simp only [go_sem] <;> rfl) (by simp only [go_sem] <;> rfl) ?_
      refine Run.nil ?_
      refine Exec.retS ?_
      exact Ends.fin [] (rs := [.tmp 6]) rfl (by simp only [go_sem, hpi, hreg, Bool.not_true, g1, g2, g3, g4, g5, List.take_length, hup2, g10, g11] <;> rfl) (by simp only [go_sem, hpi, hreg, Bool.not_true, g1, g2, g3, g4, g5, List.take_length, hup2, g10, g11] <;> first | rfl | ((repeat' (first | with_reducible_and_instances rfl | refine st_eq ?_ ?_ ?_ | refine ret_eq ?_ | refine tup_eq ?_ | refine tm_eq ?_ ?_ | refine arr_eq ?_ | refine cells_eq ?_ | refine val_eq ?_ | refine ls_eq ?_ ?_ | refine own_eq ?_ ?_ | refine sl_eq ?_ | refine b_eq ?_ | (refine i_eq ?_; omega))); done))
    · exact absurd hb155 (by simp)
  obtain ⟨l0, z, hlz⟩ : ∃ l0 z, l = l0 ++ [z] := by
    rcases snoc_cases l with h | h
    · exact absurd h hnil
    · exact h
  subst hlz
  have hl01 : l0.length + 1 ≤ 1000 := by simpa using hl
  have g11 : ((((l0.length + 1 : Nat) : Int)) == 0) = false := by rw [beq_eq_false_iff_ne]; omega
  have t4 : (((l0.length + 1 : Nat) : Int) - 1).toNat = l0.length := by omega
  have hgz : (l0 ++ [z])[l0.length]? = some z := by simp
  have g12 : decide (((l0.length + 1 : Nat) : Int) ≥ 32) = false := decide_eq_false (by simp at hx32; omega)
  refine Exec.reg ?_
  refine Run.op (by simp only [go_sem] <;> rfl) (by simp only [go_sem] <;> rfl) ?_
  iterate 3 (refine Run.op (by simp only [go_sem, hpi, hreg, Bool.not_true, g1, g2, g3, g4, g5, List.take_length, hup2, g10, g11, t4, hgz, g12] <;> rfl) (by simp only [go_sem] <;> rfl) ?_)
  refine Run.yes (by simp only [go_sem] <;> rfl) (by simp only [go_sem] <;> rfl) (by simp only [go_sem] <;> rfl) ?_
  iterate 2 (refine Run.yes (by simp only [go_sem] <;> rfl) (by simp only [go_sem, hpi, hreg, Bool.not_true, g1, g2, g3, g4, g5, List.take_length, hup2, g10, g11, t4, hgz, g12] <;> rfl) (by simp only [go_sem] <;> rfl) ?_)
  iterate 2 (refine Run.op (by simp only [go_sem, hpi, hreg, Bool.not_true, g1, g2, g3, g4, g5, List.take_length, hup2, g10, g11, t4, hgz, g12] <;> rfl) (by simp only [go_sem] <;> rfl) ?_)
  iterate 2 (refine Run.yes (by simp only [go_sem] <;> rfl) (by simp only [go_sem] <;> rfl) (by simp only [go_sem] <;> rfl) ?_)
  refine Run.yes (by simp only [go_sem] <;> rfl) (by simp only [go_sem, hpi, hreg, Bool.not_true, g1, g2, g3, g4, g5, List.take_length, hup2, g10, g11, t4, hgz, g12] <;> rfl) (by simp only [go_sem] <;> rfl) ?_
  refine Run.yes (by simp only [go_sem] <;> rfl) (by simp only [go_sem, hpi, hreg, Bool.not_true, g1, g2, g3, g4, g5, List.take_length, hup2, g10, g11, t4, hgz, g12]; (try simp (disch := omega) only [IntWalk.i64_in, IntWalk.u64_in, if_neg, if_pos])<;> rfl) (by simp only [go_sem] <;> rfl) ?_
  refine Run.yes (by simp only [go_sem] <;> rfl) (by simp only [go_sem, hpi, hreg, Bool.not_true, g1, g2, g3, g4, g5, List.take_length, hup2, g10, g11, t4, hgz, g12]; (try simp (disch := omega) only [if_pos]); (try simp only [go_sem, hpi, hreg, Bool.not_true, g1, g2, g3, g4, g5, List.take_length, hup2, g10, g11, t4, hgz, g12])<;> rfl) (by simp only [go_sem] <;> rfl) ?_
  iterate 2 (refine Run.yes (by simp only [go_sem] <;> rfl) (by simp only [go_sem, hpi, hreg, Bool.not_true, g1, g2, g3, g4, g5, List.take_length, hup2, g10, g11, t4, hgz, g12] <;> rfl) (by simp only [go_sem] <;> rfl) ?_)
  refine Run.op (by simp only [go_sem, hpi, hreg, Bool.not_true, g1, g2, g3, g4, g5, List.take_length, hup2, g10, g11, t4, hgz, g12] <;> rfl) (by simp only [go_sem] <;> rfl) ?_
  refine Run.nil ?_
  refine Exec.cndS (by simp only [go_sem, hpi, hreg, Bool.not_true, g1, g2, g3, g4, g5, List.take_length, hup2, g10, g11, t4, hgz, g12] <;> rfl) (fun hb155 => ?_) (fun hb155 => ?_)
  · skip
    refine Exec.assocS ?_
    refine Exec.reg ?_
    refine Run.cal (c_law_awake) (by simp only [go_sem]) (by simp only [go_sem, hpi, hreg, Bool.not_true, g1, g2, g3, g4, g5, List.take_length, hup2, g10, g11, t4, hgz, g12] <;> rfl) (by exact trivial) (fr0) (by simp only [go_sem, hpi, hreg, Bool.not_true, g1, g2, g3, g4, g5, List.take_length, hup2, g10, g11, t4, hgz, g12] <;> rfl) ?_
    refine Run.op (by simp only [go_sem] <;> rfl) (by simp only [go_sem] <;> rfl) ?_
    refine Run.nil ?_
    refine Exec.retS ?_
    exact Ends.fin [] (rs := [.tmp 6]) rfl (by simp only [go_sem, hpi, hreg, Bool.not_true, g1, g2, g3, g4, g5, List.take_length, hup2, g10, g11, t4, hgz, g12] <;> rfl) (by simp only [go_sem, hpi, hreg, Bool.not_true, g1, g2, g3, g4, g5, List.take_length, hup2, g10, g11, t4, hgz, g12] <;> first | rfl | ((repeat' (first | with_reducible_and_instances rfl | refine st_eq ?_ ?_ ?_ | refine ret_eq ?_ | refine tup_eq ?_ | refine tm_eq ?_ ?_ | refine arr_eq ?_ | refine cells_eq ?_ | refine val_eq ?_ | refine ls_eq ?_ ?_ | refine own_eq ?_ ?_ | refine sl_eq ?_ | refine b_eq ?_ | (refine i_eq ?_; omega))); done))
  have hz0 : 0 < z := by have := of_decide_eq_false hb155; omega
  have he0 : errD r l0 = 0 := err_take he
  have hl1 : l0.length + 1 ≤ 31 := by have := hx32; simp at this; omega
  have hzb := hlb z (by simp)
  have heb : errD r (l0 ++ [z] ++ [-z]) = 0 := err_app he (by simp; omega) (fun n hn => by rw [List.mem_singleton.1 hn]; omega)
  have hp0 := pul_is he0 hin
  have hpb2 : pulsesR r (l0 ++ [z] ++ [0 - z]) at_ = ((pS at_ r.start (l0 ++ [z] ++ [-z])).ct, (pS at_ r.start (l0 ++ [z] ++ [-z])).all, 0) := by rw [show (0 - z) = -z by omega]; exact pul_is heb hin
  have bb := pulse_back at_ r.start l0 hz0
  have hm0 := step_all at_ (pS at_ r.start l0) z
  rw [← pS_snoc] at hm0
  have hbb := pS_bnd at_ heb
  have hb0 := pS_bnd at_ he0
  have g6 : decide ((pS at_ r.start l0).ct ≤ (pS at_ r.start (l0 ++ [z])).ct) = true := decide_eq_true (by omega)
  have g6b : decide ((pS at_ r.start l0).ct ≤ (pS at_ r.start (l0 ++ [z])).all) = true := decide_eq_true (by omega)
  have g7 : decide ((pS at_ r.start (l0 ++ [z] ++ [-z])).all - (pS at_ r.start (l0 ++ [z])).all - ((pS at_ r.start (l0 ++ [z])).all - (pS at_ r.start l0).all) ≥ -1) = true := decide_eq_true (by omega)
  have g8 : decide ((pS at_ r.start (l0 ++ [z] ++ [-z])).all - (pS at_ r.start (l0 ++ [z])).all - ((pS at_ r.start (l0 ++ [z])).all - (pS at_ r.start l0).all) ≤ 1) = true := decide_eq_true (by omega)
  have t5 : (((l0.length + 1 : Nat) : Int) - 1).toNat = l0.length := by omega
  have hsl : List.drop (Int.toNat 0) (List.take l0.length (List.map encInt (l0 ++ [z]))) = l0.map encInt := by simp
  refine Exec.skipS ?_
  refine Exec.opk 17 ?_
  refine OpenK.op (by simp only [go_sem, hpi, hreg, Bool.not_true, g1, g2, g3, g4, g5, List.take_length, hup2, g10, g11, t4, hgz, g12, hp0, hpb2, g6, g6b, g7, g8, t5, hsl] <;> rfl) (by simp only [go_sem] <;> rfl) (by simp only [go_sem] <;> rfl) ?_
  iterate 2 (refine OpenK.op (by simp only [go_sem] <;> rfl) (by simp only [go_sem] <;> rfl) (by simp only [go_sem] <;> rfl) ?_)
  refine OpenK.op (by simp only [go_sem, hpi, hreg, Bool.not_true, g1, g2, g3, g4, g5, List.take_length, hup2, g10, g11, t4, hgz, g12, hp0, hpb2, g6, g6b, g7, g8, t5, hsl] <;> rfl) (by simp only [go_sem] <;> rfl) (by simp only [go_sem] <;> rfl) ?_
  refine OpenK.op (by simp only [go_sem, hpi, hreg, Bool.not_true, g1, g2, g3, g4, g5, List.take_length, hup2, g10, g11, t4, hgz, g12, hp0, hpb2, g6, g6b, g7, g8, t5, hsl]; (try simp (disch := omega) only [IntWalk.i64_in, IntWalk.u64_in, if_neg, if_pos])<;> rfl) (by simp only [go_sem] <;> rfl) (by simp only [go_sem] <;> rfl) ?_
  refine OpenK.op (by simp only [go_sem, hpi, hreg, Bool.not_true, g1, g2, g3, g4, g5, List.take_length, hup2, g10, g11, t4, hgz, g12, hp0, hpb2, g6, g6b, g7, g8, t5, hsl]; (try simp (disch := omega) only [if_pos]); (try simp only [go_sem, hpi, hreg, Bool.not_true, g1, g2, g3, g4, g5, List.take_length, hup2, g10, g11, t4, hgz, g12, hp0, hpb2, g6, g6b, g7, g8, t5, hsl])<;> rfl) (by simp only [go_sem] <;> rfl) (by simp only [go_sem] <;> rfl) ?_
  refine OpenK.op (by simp only [go_sem, hpi, hreg, Bool.not_true, g1, g2, g3, g4, g5, List.take_length, hup2, g10, g11, t4, hgz, g12, hp0, hpb2, g6, g6b, g7, g8, t5, hsl] <;> rfl) (by simp only [go_sem] <;> rfl) (by simp only [go_sem] <;> rfl) ?_
  refine OpenK.cal (c_drum_Pulses r l0 at_ (by simp at hl; omega)) (by simp only [go_sem]) (by simp only [go_sem, hpi, hreg, Bool.not_true, g1, g2, g3, g4, g5, List.take_length, hup2, g10, g11, t4, hgz, g12, hp0, hpb2, g6, g6b, g7, g8, t5, hsl] <;> rfl) (by exact ⟨by first | exact WkR.pure rfl | exact WkR.nil _ | exact WkR.int (by first | omega | (simp; done) | (simp; omega)), by first | exact WkR.pure rfl | exact WkR.nil _ | exact WkR.int (by first | omega | (simp; done) | (simp; omega)), by first | exact WkR.pure rfl | exact WkR.nil _ | exact WkR.int (by first | omega | (simp; done) | (simp; omega)), trivial⟩) (fr0) (by simp only [go_sem, hpi, hreg, Bool.not_true, g1, g2, g3, g4, g5, List.take_length, hup2, g10, g11, t4, hgz, g12, hp0, hpb2, g6, g6b, g7, g8, t5, hsl] <;> rfl) (by simp only [go_sem] <;> rfl) (by simp only [go_sem] <;> rfl) ?_
  refine OpenK.op (by simp only [go_sem] <;> rfl) (by simp only [go_sem] <;> rfl) (by simp only [go_sem] <;> rfl) ?_
  iterate 3 (refine OpenK.op (by simp only [go_sem, hpi, hreg, Bool.not_true, g1, g2, g3, g4, g5, List.take_length, hup2, g10, g11, t4, hgz, g12, hp0, hpb2, g6, g6b, g7, g8, t5, hsl] <;> rfl) (by simp only [go_sem] <;> rfl) (by simp only [go_sem] <;> rfl) ?_)
  iterate 3 (refine OpenK.op (by simp only [go_sem] <;> rfl) (by simp only [go_sem] <;> rfl) (by simp only [go_sem] <;> rfl) ?_)
  refine OpenK.nil (OpenE.fin (by decide +kernel) (by decide +kernel) ?_)
  refine Exec.opk 24 ?_
  iterate 2 (refine OpenK.op (by simp only [go_sem, hpi, hreg, Bool.not_true, g1, g2, g3, g4, g5, List.take_length, hup2, g10, g11, t4, hgz, g12, hp0, hpb2, g6, g6b, g7, g8, t5, hsl] <;> rfl) (by simp only [go_sem] <;> rfl) (by simp only [go_sem] <;> rfl) ?_)
  refine OpenK.op (by simp only [go_sem] <;> rfl) (by simp only [go_sem] <;> rfl) (by simp only [go_sem] <;> rfl) ?_
  refine OpenK.op (by simp only [go_sem, hpi, hreg, Bool.not_true, g1, g2, g3, g4, g5, List.take_length, hup2, g10, g11, t4, hgz, g12, hp0, hpb2, g6, g6b, g7, g8, t5, hsl]; (try simp (disch := omega) only [if_pos]); (try simp only [go_sem, hpi, hreg, Bool.not_true, g1, g2, g3, g4, g5, List.take_length, hup2, g10, g11, t4, hgz, g12, hp0, hpb2, g6, g6b, g7, g8, t5, hsl]) <;> first | (refine ite_run ⟨by (try simp only [List.length_append, List.length_drop, List.length_take, List.length_map, List.length_cons, List.length_nil, List.length_replicate, List.length_set, List.length_range, Nat.zero_add]); omega, by (try simp only [List.length_append, List.length_drop, List.length_take, List.length_map, List.length_cons, List.length_nil, List.length_replicate, List.length_set, List.length_range, Nat.zero_add]); omega, by repeat (first | exact al_nil | assumption | refine al_app ?_ ?_ | refine al_drop ?_ | refine al_take ?_ | exact al_map (fun _ => rfl) | exact al_rep rfl | refine al_cons rfl ?_)⟩ ?_; simp only [go_sem, hpi, hreg, Bool.not_true, g1, g2, g3, g4, g5, List.take_length, hup2, g10, g11, t4, hgz, g12, hp0, hpb2, g6, g6b, g7, g8, t5, hsl] <;> rfl) | (refine ite_run ⟨by (try simp only [List.length_append, List.length_drop, List.length_take, List.length_map, List.length_cons, List.length_nil, List.length_replicate, List.length_set, List.length_range, Nat.zero_add]); omega, by repeat (first | exact al_nil | assumption | refine al_app ?_ ?_ | refine al_drop ?_ | refine al_take ?_ | exact al_map (fun _ => rfl) | exact al_rep rfl | refine al_cons rfl ?_)⟩ ?_; simp only [go_sem, hpi, hreg, Bool.not_true, g1, g2, g3, g4, g5, List.take_length, hup2, g10, g11, t4, hgz, g12, hp0, hpb2, g6, g6b, g7, g8, t5, hsl] <;> rfl) | rfl) (by simp only [go_sem] <;> rfl) (by simp only [go_sem] <;> rfl) ?_
  iterate 2 (refine OpenK.op (by simp only [go_sem] <;> rfl) (by simp only [go_sem] <;> rfl) (by simp only [go_sem] <;> rfl) ?_)
  refine OpenK.op (by simp only [go_sem, hpi, hreg, Bool.not_true, g1, g2, g3, g4, g5, List.take_length, hup2, g10, g11, t4, hgz, g12, hp0, hpb2, g6, g6b, g7, g8, t5, hsl] <;> rfl) (by simp only [go_sem] <;> rfl) (by simp only [go_sem] <;> rfl) ?_
  refine OpenK.op (by simp only [go_sem, hpi, hreg, Bool.not_true, g1, g2, g3, g4, g5, List.take_length, hup2, g10, g11, t4, hgz, g12, hp0, hpb2, g6, g6b, g7, g8, t5, hsl]; (try simp (disch := omega) only [IntWalk.i64_in, IntWalk.u64_in, if_neg, if_pos])<;> rfl) (by simp only [go_sem] <;> rfl) (by simp only [go_sem] <;> rfl) ?_
  refine OpenK.op (by simp only [go_sem, hpi, hreg, Bool.not_true, g1, g2, g3, g4, g5, List.take_length, hup2, g10, g11, t4, hgz, g12, hp0, hpb2, g6, g6b, g7, g8, t5, hsl]; (try simp (disch := omega) only [if_pos]); (try simp only [go_sem, hpi, hreg, Bool.not_true, g1, g2, g3, g4, g5, List.take_length, hup2, g10, g11, t4, hgz, g12, hp0, hpb2, g6, g6b, g7, g8, t5, hsl])<;> rfl) (by simp only [go_sem] <;> rfl) (by simp only [go_sem] <;> rfl) ?_
  refine OpenK.op (by simp only [go_sem, hpi, hreg, Bool.not_true, g1, g2, g3, g4, g5, List.take_length, hup2, g10, g11, t4, hgz, g12, hp0, hpb2, g6, g6b, g7, g8, t5, hsl] <;> rfl) (by simp only [go_sem] <;> rfl) (by simp only [go_sem] <;> rfl) ?_
  refine OpenK.op (by simp only [go_sem, hpi, hreg, Bool.not_true, g1, g2, g3, g4, g5, List.take_length, hup2, g10, g11, t4, hgz, g12, hp0, hpb2, g6, g6b, g7, g8, t5, hsl]; (try simp (disch := omega) only [IntWalk.i64_in, IntWalk.u64_in, if_neg, if_pos])<;> rfl) (by simp only [go_sem] <;> rfl) (by simp only [go_sem] <;> rfl) ?_
  refine OpenK.op (by simp only [go_sem, hpi, hreg, Bool.not_true, g1, g2, g3, g4, g5, List.take_length, hup2, g10, g11, t4, hgz, g12, hp0, hpb2, g6, g6b, g7, g8, t5, hsl] <;> rfl) (by simp only [go_sem] <;> rfl) (by simp only [go_sem] <;> rfl) ?_
  refine OpenK.op (by simp only [go_sem, hpi, hreg, Bool.not_true, g1, g2, g3, g4, g5, List.take_length, hup2, g10, g11, t4, hgz, g12, hp0, hpb2, g6, g6b, g7, g8, t5, hsl]; (try simp (disch := omega) only [if_pos]); (try simp only [go_sem, hpi, hreg, Bool.not_true, g1, g2, g3, g4, g5, List.take_length, hup2, g10, g11, t4, hgz, g12, hp0, hpb2, g6, g6b, g7, g8, t5, hsl]) <;> first | (refine ite_run ⟨by (try simp only [List.length_append, List.length_drop, List.length_take, List.length_map, List.length_cons, List.length_nil, List.length_replicate, List.length_set, List.length_range, Nat.zero_add]); omega, by (try simp only [List.length_append, List.length_drop, List.length_take, List.length_map, List.length_cons, List.length_nil, List.length_replicate, List.length_set, List.length_range, Nat.zero_add]); omega, by repeat (first | exact al_nil | assumption | refine al_app ?_ ?_ | refine al_drop ?_ | refine al_take ?_ | exact al_map (fun _ => rfl) | exact al_rep rfl | refine al_cons rfl ?_)⟩ ?_; simp only [go_sem, hpi, hreg, Bool.not_true, g1, g2, g3, g4, g5, List.take_length, hup2, g10, g11, t4, hgz, g12, hp0, hpb2, g6, g6b, g7, g8, t5, hsl] <;> rfl) | (refine ite_run ⟨by (try simp only [List.length_append, List.length_drop, List.length_take, List.length_map, List.length_cons, List.length_nil, List.length_replicate, List.length_set, List.length_range, Nat.zero_add]); omega, by repeat (first | exact al_nil | assumption | refine al_app ?_ ?_ | refine al_drop ?_ | refine al_take ?_ | exact al_map (fun _ => rfl) | exact al_rep rfl | refine al_cons rfl ?_)⟩ ?_; simp only [go_sem, hpi, hreg, Bool.not_true, g1, g2, g3, g4, g5, List.take_length, hup2, g10, g11, t4, hgz, g12, hp0, hpb2, g6, g6b, g7, g8, t5, hsl] <;> rfl) | rfl) (by simp only [go_sem] <;> rfl) (by simp only [go_sem] <;> rfl) ?_
  refine OpenK.op (by simp only [go_sem, hpi, hreg, Bool.not_true, g1, g2, g3, g4, g5, List.take_length, hup2, g10, g11, t4, hgz, g12, hp0, hpb2, g6, g6b, g7, g8, t5, hsl] <;> rfl) (by simp only [go_sem] <;> rfl) (by simp only [go_sem] <;> rfl) ?_
  refine OpenK.lend 900 171 (by simp only [go_sem] <;> rfl) (c_Pulses_l r (l0 ++ [z] ++ [0 - z]) at_ (by simp at hl ⊢; omega)) (by simp only [go_sem]) (by simp only [go_sem] <;> rfl) (by simp only [go_sem] <;> rfl) (by simp only [go_sem, List.map_append] <;> rfl) (by exact ⟨WkR.pure rfl, WkR.of rfl (by simp only [go_sem] <;> rfl), WkR.pure rfl, trivial⟩) (by simp only [go_sem] <;> rfl) (by simp only [go_sem] <;> rfl) (by simp only [go_sem] <;> rfl) ?_
  refine OpenK.op (by simp only [go_sem] <;> rfl) (by simp only [go_sem] <;> rfl) (by simp only [go_sem] <;> rfl) ?_
  iterate 3 (refine OpenK.op (by simp only [go_sem, hpi, hreg, Bool.not_true, g1, g2, g3, g4, g5, List.take_length, hup2, g10, g11, t4, hgz, g12, hp0, hpb2, g6, g6b, g7, g8, t5, hsl] <;> rfl) (by simp only [go_sem] <;> rfl) (by simp only [go_sem] <;> rfl) ?_)
  iterate 3 (refine OpenK.op (by simp only [go_sem] <;> rfl) (by simp only [go_sem] <;> rfl) (by simp only [go_sem] <;> rfl) ?_)
  refine OpenK.nil (OpenE.finT (by kernel_rfl) (by kernel_rfl) (by kernel_rfl) ?_)
  refine Exec.opk 17 ?_
  refine OpenK.op (by simp only [go_sem, hpi, hreg, Bool.not_true, g1, g2, g3, g4, g5, List.take_length, hup2, g10, g11, t4, hgz, g12, hp0, hpb2, g6, g6b, g7, g8, t5, hsl] <;> rfl) (by simp only [go_sem] <;> rfl) (by simp only [go_sem] <;> rfl) ?_
  iterate 2 (refine OpenK.op (by simp only [go_sem] <;> rfl) (by simp only [go_sem] <;> rfl) (by simp only [go_sem] <;> rfl) ?_)
  refine OpenK.op (by simp only [go_sem, hpi, hreg, Bool.not_true, g1, g2, g3, g4, g5, List.take_length, hup2, g10, g11, t4, hgz, g12, hp0, hpb2, g6, g6b, g7, g8, t5, hsl] <;> rfl) (by simp only [go_sem] <;> rfl) (by simp only [go_sem] <;> rfl) ?_
  refine OpenK.op (by simp only [go_sem, hpi, hreg, Bool.not_true, g1, g2, g3, g4, g5, List.take_length, hup2, g10, g11, t4, hgz, g12, hp0, hpb2, g6, g6b, g7, g8, t5, hsl]; (try simp (disch := omega) only [IntWalk.i64_in, IntWalk.u64_in, if_neg, if_pos])<;> rfl) (by simp only [go_sem] <;> rfl) (by simp only [go_sem] <;> rfl) ?_
  refine OpenK.op (by simp only [go_sem, hpi, hreg, Bool.not_true, g1, g2, g3, g4, g5, List.take_length, hup2, g10, g11, t4, hgz, g12, hp0, hpb2, g6, g6b, g7, g8, t5, hsl]; (try simp (disch := omega) only [if_pos]); (try simp only [go_sem, hpi, hreg, Bool.not_true, g1, g2, g3, g4, g5, List.take_length, hup2, g10, g11, t4, hgz, g12, hp0, hpb2, g6, g6b, g7, g8, t5, hsl])<;> rfl) (by simp only [go_sem] <;> rfl) (by simp only [go_sem] <;> rfl) ?_
  refine OpenK.op (by simp only [go_sem, hpi, hreg, Bool.not_true, g1, g2, g3, g4, g5, List.take_length, hup2, g10, g11, t4, hgz, g12, hp0, hpb2, g6, g6b, g7, g8, t5, hsl] <;> rfl) (by simp only [go_sem] <;> rfl) (by simp only [go_sem] <;> rfl) ?_
  refine OpenK.cal (c_drum_Pulses r l0 at_ (by simp at hl; omega)) (by simp only [go_sem]) (by simp only [go_sem, hpi, hreg, Bool.not_true, g1, g2, g3, g4, g5, List.take_length, hup2, g10, g11, t4, hgz, g12, hp0, hpb2, g6, g6b, g7, g8, t5, hsl] <;> rfl) (by exact ⟨by first | exact WkR.pure rfl | exact WkR.nil _ | exact WkR.int (by first | omega | (simp; done) | (simp; omega)), by first | exact WkR.pure rfl | exact WkR.nil _ | exact WkR.int (by first | omega | (simp; done) | (simp; omega)), by first | exact WkR.pure rfl | exact WkR.nil _ | exact WkR.int (by first | omega | (simp; done) | (simp; omega)), trivial⟩) (fr0) (by simp only [go_sem, hpi, hreg, Bool.not_true, g1, g2, g3, g4, g5, List.take_length, hup2, g10, g11, t4, hgz, g12, hp0, hpb2, g6, g6b, g7, g8, t5, hsl] <;> rfl) (by simp only [go_sem] <;> rfl) (by simp only [go_sem] <;> rfl) ?_
  refine OpenK.op (by simp only [go_sem] <;> rfl) (by simp only [go_sem] <;> rfl) (by simp only [go_sem] <;> rfl) ?_
  iterate 3 (refine OpenK.op (by simp only [go_sem, hpi, hreg, Bool.not_true, g1, g2, g3, g4, g5, List.take_length, hup2, g10, g11, t4, hgz, g12, hp0, hpb2, g6, g6b, g7, g8, t5, hsl] <;> rfl) (by simp only [go_sem] <;> rfl) (by simp only [go_sem] <;> rfl) ?_)
  iterate 3 (refine OpenK.op (by simp only [go_sem] <;> rfl) (by simp only [go_sem] <;> rfl) (by simp only [go_sem] <;> rfl) ?_)
  refine OpenK.nil (OpenE.fin (by decide +kernel) (by decide +kernel) ?_)
  refine Exec.reg ?_
  iterate 2 (refine Run.op (by simp only [go_sem] <;> rfl) (by simp only [go_sem] <;> rfl) ?_)
  refine Run.op (by simp only [go_sem, hpi, hreg, Bool.not_true, g1, g2, g3, g4, g5, List.take_length, hup2, g10, g11, t4, hgz, g12, hp0, hpb2, g6, g6b, g7, g8, t5, hsl]; (try simp (disch := omega) only [IntWalk.i64_in, IntWalk.u64_in, if_neg, if_pos])<;> rfl) (by simp only [go_sem] <;> rfl) ?_
  iterate 2 (refine Run.op (by simp only [go_sem] <;> rfl) (by simp only [go_sem] <;> rfl) ?_)
  refine Run.op (by simp only [go_sem, hpi, hreg, Bool.not_true, g1, g2, g3, g4, g5, List.take_length, hup2, g10, g11, t4, hgz, g12, hp0, hpb2, g6, g6b, g7, g8, t5, hsl]; (try simp (disch := omega) only [IntWalk.i64_in, IntWalk.u64_in, if_neg, if_pos])<;> rfl) (by simp only [go_sem] <;> rfl) ?_
  iterate 2 (refine Run.op (by simp only [go_sem] <;> rfl) (by simp only [go_sem] <;> rfl) ?_)
  refine Run.nil ?_
  refine Exec.reg ?_
  refine Run.op (by simp only [go_sem] <;> rfl) (by simp only [go_sem] <;> rfl) ?_
  iterate 2 (refine Run.op (by simp only [go_sem, hpi, hreg, Bool.not_true, g1, g2, g3, g4, g5, List.take_length, hup2, g10, g11, t4, hgz, g12, hp0, hpb2, g6, g6b, g7, g8, t5, hsl] <;> rfl) (by simp only [go_sem] <;> rfl) ?_)
  refine Run.yes (by simp only [go_sem] <;> rfl) (by simp only [go_sem] <;> rfl) (by simp only [go_sem] <;> rfl) ?_
  refine Run.yes (by simp only [go_sem] <;> rfl) (by simp only [go_sem, hpi, hreg, Bool.not_true, g1, g2, g3, g4, g5, List.take_length, hup2, g10, g11, t4, hgz, g12, hp0, hpb2, g6, g6b, g7, g8, t5, hsl] <;> rfl) (by simp only [go_sem] <;> rfl) ?_
  iterate 2 (refine Run.op (by simp only [go_sem, hpi, hreg, Bool.not_true, g1, g2, g3, g4, g5, List.take_length, hup2, g10, g11, t4, hgz, g12, hp0, hpb2, g6, g6b, g7, g8, t5, hsl] <;> rfl) (by simp only [go_sem] <;> rfl) ?_)
  refine Run.yes (by simp only [go_sem] <;> rfl) (by simp only [go_sem] <;> rfl) (by simp only [go_sem] <;> rfl) ?_
  refine Run.yes (by simp only [go_sem] <;> rfl) (by simp only [go_sem, hpi, hreg, Bool.not_true, g1, g2, g3, g4, g5, List.take_length, hup2, g10, g11, t4, hgz, g12, hp0, hpb2, g6, g6b, g7, g8, t5, hsl] <;> rfl) (by simp only [go_sem] <;> rfl) ?_
  iterate 2 (refine Run.op (by simp only [go_sem, hpi, hreg, Bool.not_true, g1, g2, g3, g4, g5, List.take_length, hup2, g10, g11, t4, hgz, g12, hp0, hpb2, g6, g6b, g7, g8, t5, hsl] <;> rfl) (by simp only [go_sem] <;> rfl) ?_)
  iterate 2 (refine Run.yes (by simp only [go_sem] <;> rfl) (by simp only [go_sem] <;> rfl) (by simp only [go_sem] <;> rfl) ?_)
  refine Run.yes (by simp only [go_sem] <;> rfl) (by simp only [go_sem, hpi, hreg, Bool.not_true, g1, g2, g3, g4, g5, List.take_length, hup2, g10, g11, t4, hgz, g12, hp0, hpb2, g6, g6b, g7, g8, t5, hsl] <;> rfl) (by simp only [go_sem] <;> rfl) ?_
  iterate 2 (refine Run.op (by simp only [go_sem, hpi, hreg, Bool.not_true, g1, g2, g3, g4, g5, List.take_length, hup2, g10, g11, t4, hgz, g12, hp0, hpb2, g6, g6b, g7, g8, t5, hsl] <;> rfl) (by simp only [go_sem] <;> rfl) ?_)
  iterate 2 (refine Run.yes (by simp only [go_sem] <;> rfl) (by simp only [go_sem] <;> rfl) (by simp only [go_sem] <;> rfl) ?_)
  refine Run.yes (by simp only [go_sem] <;> rfl) (by simp only [go_sem, hpi, hreg, Bool.not_true, g1, g2, g3, g4, g5, List.take_length, hup2, g10, g11, t4, hgz, g12, hp0, hpb2, g6, g6b, g7, g8, t5, hsl]; (try simp (disch := omega) only [IntWalk.i64_in, IntWalk.u64_in, if_neg, if_pos])<;> rfl) (by simp only [go_sem] <;> rfl) ?_
  refine Run.yes (by simp only [go_sem] <;> rfl) (by simp only [go_sem, hpi, hreg, Bool.not_true, g1, g2, g3, g4, g5, List.take_length, hup2, g10, g11, t4, hgz, g12, hp0, hpb2, g6, g6b, g7, g8, t5, hsl] <;> rfl) (by simp only [go_sem] <;> rfl) ?_
  iterate 2 (refine Run.op (by simp only [go_sem, hpi, hreg, Bool.not_true, g1, g2, g3, g4, g5, List.take_length, hup2, g10, g11, t4, hgz, g12, hp0, hpb2, g6, g6b, g7, g8, t5, hsl] <;> rfl) (by simp only [go_sem] <;> rfl) ?_)
  iterate 2 (refine Run.yes (by simp only [go_sem] <;> rfl) (by simp only [go_sem] <;> rfl) (by simp only [go_sem] <;> rfl) ?_)
  refine Run.yes (by simp only [go_sem] <;> rfl) (by simp only [go_sem, hpi, hreg, Bool.not_true, g1, g2, g3, g4, g5, List.take_length, hup2, g10, g11, t4, hgz, g12, hp0, hpb2, g6, g6b, g7, g8, t5, hsl]; (try simp (disch := omega) only [IntWalk.i64_in, IntWalk.u64_in, if_neg, if_pos])<;> rfl) (by simp only [go_sem] <;> rfl) ?_
  refine Run.yes (by simp only [go_sem] <;> rfl) (by simp only [go_sem, hpi, hreg, Bool.not_true, g1, g2, g3, g4, g5, List.take_length, hup2, g10, g11, t4, hgz, g12, hp0, hpb2, g6, g6b, g7, g8, t5, hsl] <;> rfl) (by simp only [go_sem] <;> rfl) ?_
  iterate 2 (refine Run.op (by simp only [go_sem, hpi, hreg, Bool.not_true, g1, g2, g3, g4, g5, List.take_length, hup2, g10, g11, t4, hgz, g12, hp0, hpb2, g6, g6b, g7, g8, t5, hsl] <;> rfl) (by simp only [go_sem] <;> rfl) ?_)
  refine Run.calw (by simp only [go_sem] <;> rfl) (c_law_awake) (by simp only [go_sem]) (by simp only [go_sem, hpi, hreg, Bool.not_true, g1, g2, g3, g4, g5, List.take_length, hup2, g10, g11, t4, hgz, g12, hp0, hpb2, g6, g6b, g7, g8, t5, hsl] <;> rfl) (by simp only [go_sem, hpi, hreg, Bool.not_true, g1, g2, g3, g4, g5, List.take_length, hup2, g10, g11, t4, hgz, g12, hp0, hpb2, g6, g6b, g7, g8, t5, hsl] <;> rfl) (by exact trivial) (fr0) (by simp only [go_sem, hpi, hreg, Bool.not_true, g1, g2, g3, g4, g5, List.take_length, hup2, g10, g11, t4, hgz, g12, hp0, hpb2, g6, g6b, g7, g8, t5, hsl] <;> rfl) ?_
  refine Run.op (by simp only [go_sem, hpi, hreg, Bool.not_true, g1, g2, g3, g4, g5, List.take_length, hup2, g10, g11, t4, hgz, g12, hp0, hpb2, g6, g6b, g7, g8, t5, hsl] <;> rfl) (by simp only [go_sem] <;> rfl) ?_
  refine Run.op (by simp only [go_sem] <;> rfl) (by simp only [go_sem] <;> rfl) ?_
  refine Run.nil ?_
  exact Ends.fin [] (rs := [.tmp 6]) rfl (by simp only [go_sem, hpi, hreg, Bool.not_true, g1, g2, g3, g4, g5, List.take_length, hup2, g10, g11, t4, hgz, g12, hp0, hpb2, g6, g6b, g7, g8, t5, hsl] <;> rfl) (by simp only [go_sem, hpi, hreg, Bool.not_true, g1, g2, g3, g4, g5, List.take_length, hup2, g10, g11, t4, hgz, g12, hp0, hpb2, g6, g6b, g7, g8, t5, hsl] <;> first | rfl | ((repeat' (first | with_reducible_and_instances rfl | refine st_eq ?_ ?_ ?_ | refine ret_eq ?_ | refine tup_eq ?_ | refine tm_eq ?_ ?_ | refine arr_eq ?_ | refine cells_eq ?_ | refine val_eq ?_ | refine ls_eq ?_ ?_ | refine own_eq ?_ ?_ | refine sl_eq ?_ | refine b_eq ?_ | (refine i_eq ?_; omega))); done))

end Go.Mw

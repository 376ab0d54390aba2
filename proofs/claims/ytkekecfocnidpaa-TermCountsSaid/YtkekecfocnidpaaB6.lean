/- Contracts of the functions that the term reaches: the document's terms. -/
import Derived.Test.YtkekecfocnidpaaB5
import Derived.Test.YtkekecfocnidpaaB4
set_option linter.unusedSimpArgs false
set_option linter.unusedVariables false
set_option linter.unusedSectionVars false
set_option linter.deprecated false
namespace Go.Mw
open Go.Proofs
open Go.Te
set_option maxRecDepth 20000 in
set_option maxHeartbeats 2000000 in
/-- meterworks/meterworksref07.begin -/
theorem c_meterworksref07_begin (s : Stk) (v : Val s) : Contract Try.prog 41 [stkV s] (.leaf (.d (tmsD (begins s)))) [] := by
  have hrs := v.nrs
  refine con_of follows_mixed Try.func41 rfl (by simp only [List.length_cons, List.length_nil, Try.ntmps41]; omega) (by kernel_rfl) rfl ?_
  refine Exec.reg ?_
  iterate 2 (refine Run.o ?_)
  refine Run.nil ?_
  refine Exec.reg ?_
  refine Run.o ?_
  refine Run.nil ?_
  refine Exec.assocS ?_
  refine Exec.reg ?_
  refine Run.nilo 3 1000 80 2 (by simp only [go_sem] <;> rfl) (by simp only [go_sem] <;> rfl) (by omega) (by omega) (by simp only [go_sem] <;> rfl) ?_
  refine Run.o ?_
  refine Run.nil ?_
  refine Exec.blk ?_
  refine Exec.forA [1, 3, 4] [1, 1000] (s.rs.length) (fun k => [.slot 4 (.int k), .slot 3 (.leaf (.own 1000 0 ((begins s).take k).length ((begins s).take k).length)), .obj 1000 (.arr 80 2 (((begins s).take k).map encTm))]) (fun _ => True) (fun k => by simp only [go_sem] <;> rfl) (by simp only [go_sem, Int.natCast_zero, List.take_zero, List.map_nil, List.length_nil] <;> rfl) ?_ (fun k hk hX => ?_)
  · trivial
  refine Exec.assocS ?_
  refine Exec.reg ?_
  iterate 5 (refine Run.o ?_)
  refine Run.nil ?_
  refine Exec.cndS (by simp only [go_sem] <;> rfl) (fun hb9 => ?_) (fun hb9 => ?_)
  · skip
    have hlt := lt_of_dec hb9
    have hr := rowOf_get hlt
    obtain ⟨_, hcl, hdy⟩ := v.row _ (rowOf_mem hlt)
    have hcb := v.cls _ (cls_mem hcl.1 hcl.2)
    have hc := clsOf_get hcl.1 hcl.2
    have hsn : (begins s).take (k + 1) = (begins s).take k ++ [((rowOf s k).day + (clsOf s (rowOf s k).cl).term, 0)] := by
      refine take_succ_of (s := ((rowOf s k).day + (clsOf s (rowOf s k).cl).term, 0)) ?_
      unfold begins
      rw [List.getElem?_map, hr]; rfl
    have hlk : ((begins s).take k).length = k := by rw [List.length_take]; simp [begins]; omega
    refine Exec.skipS ?_
    refine Exec.blk ?_
    refine Exec.opk1 25 ?_
    iterate 2 (refine OpenK.o ?_)
    refine OpenK.o1 (by simp only [go_sem, hr, hc] <;> rfl) ?_
    refine OpenK.o ?_
    refine OpenK.o1 (by simp only [go_sem, hr, hc]; (try simp (disch := omega) only [if_pos]); (try simp only [go_sem, hr, hc])<;> rfl) ?_
    refine OpenK.o ?_
    refine OpenK.o1 (by simp only [go_sem, hr, hc] <;> rfl) ?_
    refine OpenK.o ?_
    refine OpenK.o1 (by simp only [go_sem, hr, hc] <;> rfl) ?_
    refine OpenK.o ?_
    refine OpenK.o1 (by simp only [go_sem, hr, hc] <;> rfl) ?_
    refine OpenK.o ?_
    refine OpenK.o1 (by simp only [go_sem, hr, hc]; (try simp (disch := omega) only [if_pos]); (try simp only [go_sem, hr, hc])<;> rfl) ?_
    refine OpenK.o ?_
    refine OpenK.o1 (by simp only [go_sem, hr, hc] <;> rfl) ?_
    refine OpenK.o1 (by simp only [go_sem, hr, hc]; (try simp (disch := omega) only [if_pos]); (try simp only [go_sem, hr, hc])<;> rfl) ?_
    refine OpenK.o ?_
    refine OpenK.o1 (by simp only [go_sem, hr, hc] <;> rfl) ?_
    refine OpenK.o1 (by simp only [go_sem, hr, hc]; (try simp (disch := omega) only [IntWalk.i64_in, IntWalk.u64_in, if_neg, if_pos])<;> rfl) ?_
    refine OpenK.o ?_
    refine OpenK.o1 (by simp only [go_sem, hr, hc] <;> rfl) ?_
    refine OpenK.o1 (by simp only [go_sem, hr, hc]; (try simp (disch := omega) only [if_pos]); (try simp only [go_sem, hr, hc]) <;> first | (refine ite_run ⟨by (try simp only [List.length_append, List.length_drop, List.length_take, List.length_map, List.length_cons, List.length_nil, List.length_replicate, List.length_set, List.length_range, Nat.zero_add]); omega, by (try simp only [List.length_append, List.length_drop, List.length_take, List.length_map, List.length_cons, List.length_nil, List.length_replicate, List.length_set, List.length_range, Nat.zero_add]); omega, by repeat (first | exact al_nil | assumption | refine al_app ?_ ?_ | refine al_drop ?_ | refine al_take ?_ | exact al_map (fun _ => rfl) | exact al_rep rfl | refine al_cons rfl ?_)⟩ ?_; simp only [go_sem, hr, hc] <;> rfl) | (refine ite_run ⟨by (try simp only [List.length_append, List.length_drop, List.length_take, List.length_map, List.length_cons, List.length_nil, List.length_replicate, List.length_set, List.length_range, Nat.zero_add]); omega, by repeat (first | exact al_nil | assumption | refine al_app ?_ ?_ | refine al_drop ?_ | refine al_take ?_ | exact al_map (fun _ => rfl) | exact al_rep rfl | refine al_cons rfl ?_)⟩ ?_; simp only [go_sem, hr, hc] <;> rfl) | rfl) ?_
    refine OpenK.o ?_
    refine OpenK.nil (OpenE.finT (by kernel_rfl) (by kernel_rfl) (by kernel_rfl) ?_)
    refine BlkK.nrm ?_
    refine Exec.reg1 ?_
    refine Run.o ?_
    refine Run.o1 (by simp only [go_sem, hr, hc]; (try simp (disch := omega) only [IntWalk.i64_in, IntWalk.u64_in, if_neg, if_pos])<;> rfl) ?_
    refine Run.o ?_
    refine Run.nil ?_
    refine ForK.nxt ?_ ?_ ?_
    · omega
    · exact Ghost.kp [1, 3, 4] [1, 1000] (by simp only [go_sem, hr, hc]; first | ((repeat' (first | with_reducible_and_instances rfl | refine st_eq ?_ ?_ ?_ | refine ret_eq ?_ | refine tup_eq ?_ | refine tm_eq ?_ ?_ | refine arr_eq ?_ | refine cells_eq ?_ | refine val_eq ?_ | refine ls_eq ?_ ?_ | refine own_eq ?_ ?_ | refine sl_eq ?_ | refine b_eq ?_ | (refine i_eq ?_; omega))); (all_goals (first | (rw [hsn]; simp [encTm]; done) | (rw [hsn]; simp; done) | (rw [hsn, List.map_append, List.length_append]; rfl)))) | rfl)
    · trivial
  have hta : (begins s).take k = begins s := List.take_of_length_le (by have := ge_of_dec hb9; simp [begins]; omega)
  refine Exec.exitS ?_
  refine ForK.ext ?_
  refine BlkK.hit ?_
  refine Exec.reg ?_
  refine Run.frz 1000 (by simp only [go_sem, hta] <;> rfl) ?_
  iterate 2 (refine Run.o ?_)
  refine Run.nil ?_
  exact Ends.fin [] (rs := [.tmp 2]) rfl (by simp only [go_sem, hta] <;> rfl) (by simp only [go_sem, hta] <;> first | rfl | ((repeat' (first | with_reducible_and_instances rfl | refine st_eq ?_ ?_ ?_ | refine ret_eq ?_ | refine tup_eq ?_ | refine tm_eq ?_ ?_ | refine arr_eq ?_ | refine cells_eq ?_ | refine val_eq ?_ | refine ls_eq ?_ ?_ | refine own_eq ?_ ?_ | refine sl_eq ?_ | refine b_eq ?_ | (refine i_eq ?_; omega))); (all_goals (first | rfl | (rw [List.take_of_length_le (by simp)])))))

set_option maxRecDepth 20000 in
set_option maxHeartbeats 4000000 in
/-- meterworks/meterworksref07.order -/
theorem c_meterworksref07_order (s : Stk) (v : Val s) : Contract Try.prog 42 [stkV s] (.leaf (.d (natsD (ordI s)))) [] := by
  have hps := v.nps
  refine con_of follows_mixed Try.func42 rfl (by simp only [List.length_cons, List.length_nil, Try.ntmps42]; omega) (by kernel_rfl) rfl ?_
  refine Exec.reg ?_
  iterate 2 (refine Run.o ?_)
  refine Run.nil ?_
  refine Exec.reg ?_
  refine Run.o ?_
  refine Run.nil ?_
  refine Exec.assocS ?_
  refine Exec.reg ?_
  refine Run.nild 3 1 (by simp only [go_sem] <;> rfl) (by simp only [go_sem] <;> rfl) ?_
  refine Run.o ?_
  refine Run.nil ?_
  refine Exec.blk ?_
  refine Exec.forA [1, 3, 4] [1] (s.ps.length) (fun k => [.slot 4 (.int k), .slot 3 (.leaf (.d (natsD (isortE (fun i j => decide ((prOf s i).day < (prOf s j).day)) (List.range k)))))]) (fun _ => True) (fun k => by simp only [go_sem] <;> rfl) (by simp only [go_sem, Int.natCast_zero, List.range_zero] <;> rfl) ?_ (fun k hk hX => ?_)
  · trivial
  refine Exec.assocS ?_
  refine Exec.reg ?_
  iterate 5 (refine Run.o ?_)
  refine Run.nil ?_
  refine Exec.cndS (by simp only [go_sem] <;> rfl) (fun hb10 => ?_) (fun hb10 => ?_)
  · skip
    have hlt := lt_of_dec hb10
    have hp := prOf_get hlt
    have hsl : ((isortE (fun i j => decide ((prOf s i).day < (prOf s j).day)) (List.range k))).length = k := by rw [len_isortE]; simp
    refine Exec.skipS ?_
    refine Exec.blk ?_
    refine Exec.reg ?_
    refine Run.o ?_
    refine Run.o1 (by simp only [go_sem, hp, hsl] <;> rfl) ?_
    refine Run.o ?_
    refine Run.nil ?_
    refine Exec.blk ?_
    refine Exec.forA [1, 3, 4, 5] [1] (k) (fun j => [.slot 5 (.int ((k : Int) - j))]) (fun j => scanE (fun i j => decide ((prOf s i).day < (prOf s j).day)) k (isortE (fun i j => decide ((prOf s i).day < (prOf s j).day)) (List.range k)) k = scanE (fun i j => decide ((prOf s i).day < (prOf s j).day)) k (isortE (fun i j => decide ((prOf s i).day < (prOf s j).day)) (List.range k)) (k - j)) (fun j => by simp only [go_sem] <;> rfl) (by simp only [go_sem, hp, hsl, Int.natCast_zero, Int.sub_zero, hsl] <;> rfl) ?_ (fun j hj Xj => ?_)
    · rfl
    refine Exec.assocS ?_
    by_cases hj1 : j < k
    · skip
      have hg1 : decide ((k : Int) - j > 0) = true := by simp; omega
      have hcj : k - j = k - j - 1 + 1 := by omega
      have hcj2 : k - (j + 1) = k - j - 1 := by omega
      obtain ⟨q, hq⟩ : ∃ q, ((isortE (fun i j => decide ((prOf s i).day < (prOf s j).day)) (List.range k)))[k - j - 1]? = some q := ⟨_, List.getElem?_eq_getElem (by omega)⟩
      have hqk : q < k := by simpa using mem_isortE.1 (List.mem_of_getElem? hq)
      have hpq := prOf_get (s := s) (i := q) (by omega)
      have t1 : ((k : Int) - j - 1).toNat = k - j - 1 := by omega
      refine Exec.opk 23 ?_
      refine OpenK.o ?_
      iterate 2 (refine OpenK.o1 (by simp only [go_sem, hp, hsl, hg1, hq, hpq, t1] <;> rfl) ?_)
      refine OpenK.y1 (by simp only [go_sem] <;> rfl) ?_
      refine OpenK.y1 (by simp only [go_sem, hp, hsl, hg1, hq, hpq, t1] <;> rfl) ?_
      iterate 2 (refine OpenK.y1 (by simp only [go_sem] <;> rfl) ?_)
      refine OpenK.y1 (by simp only [go_sem, hp, hsl, hg1, hq, hpq, t1]; (try simp (disch := omega) only [IntWalk.i64_in, IntWalk.u64_in, if_neg, if_pos])<;> rfl) ?_
      refine OpenK.y1 (by simp only [go_sem, hp, hsl, hg1, hq, hpq, t1]; (try simp (disch := omega) only [if_pos]); (try simp only [go_sem, hp, hsl, hg1, hq, hpq, t1])<;> rfl) ?_
      refine OpenK.y1 (by simp only [go_sem, hp, hsl, hg1, hq, hpq, t1] <;> rfl) ?_
      refine OpenK.y1 (by simp only [go_sem, hp, hsl, hg1, hq, hpq, t1]; (try simp (disch := omega) only [if_pos]); (try simp only [go_sem, hp, hsl, hg1, hq, hpq, t1])<;> rfl) ?_
      refine OpenK.y1 (by simp only [go_sem] <;> rfl) ?_
      refine OpenK.y1 (by simp only [go_sem, hp, hsl, hg1, hq, hpq, t1] <;> rfl) ?_
      refine OpenK.y1 (by simp only [go_sem] <;> rfl) ?_
      refine OpenK.y1 (by simp only [go_sem, hp, hsl, hg1, hq, hpq, t1] <;> rfl) ?_
      refine OpenK.y1 (by simp only [go_sem] <;> rfl) ?_
      refine OpenK.y1 (by simp only [go_sem, hp, hsl, hg1, hq, hpq, t1]; (try simp (disch := omega) only [if_pos]); (try simp only [go_sem, hp, hsl, hg1, hq, hpq, t1])<;> rfl) ?_
      refine OpenK.y1 (by simp only [go_sem] <;> rfl) ?_
      iterate 2 (refine OpenK.y1 (by simp only [go_sem, hp, hsl, hg1, hq, hpq, t1] <;> rfl) ?_)
      refine OpenK.o1 (by simp only [go_sem, hp, hsl, hg1, hq, hpq, t1] <;> rfl) ?_
      refine OpenK.nil (OpenE.finT (by kernel_rfl) (by kernel_rfl) (by kernel_rfl) ?_)
      refine Exec.cndS (by simp only [go_sem, hp, hsl, hg1, hq, hpq, t1] <;> rfl) (fun hb35 => ?_) (fun hb35 => ?_)
      · skip
        have hl : (fun i j => decide ((prOf s i).day < (prOf s j).day)) k q = true := by simpa using hb35
        refine Exec.skipS ?_
        refine Exec.blk1 ?_
        refine Exec.reg1 ?_
        refine Run.o ?_
        refine Run.o1 (by simp only [go_sem, hp, hsl, hg1, hq, hpq, t1]; (try simp (disch := omega) only [IntWalk.i64_in, IntWalk.u64_in, if_neg, if_pos])<;> rfl) ?_
        refine Run.o ?_
        refine Run.nil ?_
        refine Blk1K.nrm ?_
        refine ForK.nxt ?_ ?_ ?_
        · omega
        · exact Ghost.kp [1, 3, 4, 5] [1] (by simp only [go_sem, hp, hsl, hg1, hq, hpq, t1]; first | ((repeat' (first | with_reducible_and_instances rfl | refine st_eq ?_ ?_ ?_ | refine ret_eq ?_ | refine tup_eq ?_ | refine tm_eq ?_ ?_ | refine arr_eq ?_ | refine cells_eq ?_ | refine val_eq ?_ | refine ls_eq ?_ ?_ | refine own_eq ?_ ?_ | refine sl_eq ?_ | refine b_eq ?_ | (refine i_eq ?_; omega))); done) | rfl)
        · rw [Xj, hcj, scanE_yes hq hl, hcj2]
      have hl : (fun i j => decide ((prOf s i).day < (prOf s j).day)) k q = false := by simpa using hb35
      have hsc : scanE (fun i j => decide ((prOf s i).day < (prOf s j).day)) k (isortE (fun i j => decide ((prOf s i).day < (prOf s j).day)) (List.range k)) k = k - j := by rw [Xj, hcj, scanE_no hq hl]
      have en : isortE (fun i j => decide ((prOf s i).day < (prOf s j).day)) (List.range k ++ [k]) = ((isortE (fun i j => decide ((prOf s i).day < (prOf s j).day)) (List.range k))).take (k - j) ++ [k] ++ ((isortE (fun i j => decide ((prOf s i).day < (prOf s j).day)) (List.range k))).drop (k - j) := by
        rw [isortE_snoc]
        unfold insE
        rw [hsl, hsc]
      have t2 : ((k : Int) - j).toNat = k - j := by omega
      refine Exec.exitS ?_
      refine ForK.ext ?_
      refine BlkK.hit ?_
      refine Exec.opk1 15 ?_
      refine OpenK.o1 (by simp only [go_sem, hp, hsl, hg1, hq, hpq, t1, t2] <;> rfl) ?_
      iterate 2 (refine OpenK.o ?_)
      refine OpenK.o1 (by simp only [go_sem, hp, hsl, hg1, hq, hpq, t1, t2]; (try simp (disch := omega) only [if_pos]); (try simp only [go_sem, hp, hsl, hg1, hq, hpq, t1, t2])<;> rfl) ?_
      refine OpenK.o1 (by simp only [go_sem, hp, hsl, hg1, hq, hpq, t1, t2]; (try simp (disch := omega) only [if_pos]); (try simp only [go_sem, hp, hsl, hg1, hq, hpq, t1, t2]) <;> first | (refine ite_run ⟨by (try simp only [List.length_append, List.length_drop, List.length_take, List.length_map, List.length_cons, List.length_nil, List.length_replicate, List.length_set, List.length_range, Nat.zero_add]); omega, by (try simp only [List.length_append, List.length_drop, List.length_take, List.length_map, List.length_cons, List.length_nil, List.length_replicate, List.length_set, List.length_range, Nat.zero_add]); omega, by repeat (first | exact al_nil | assumption | refine al_app ?_ ?_ | refine al_drop ?_ | refine al_take ?_ | exact al_map (fun _ => rfl) | exact al_rep rfl | refine al_cons rfl ?_)⟩ ?_; simp only [go_sem, hp, hsl, hg1, hq, hpq, t1, t2] <;> rfl) | (refine ite_run ⟨by (try simp only [List.length_append, List.length_drop, List.length_take, List.length_map, List.length_cons, List.length_nil, List.length_replicate, List.length_set, List.length_range, Nat.zero_add]); omega, by repeat (first | exact al_nil | assumption | refine al_app ?_ ?_ | refine al_drop ?_ | refine al_take ?_ | exact al_map (fun _ => rfl) | exact al_rep rfl | refine al_cons rfl ?_)⟩ ?_; simp only [go_sem, hp, hsl, hg1, hq, hpq, t1, t2] <;> rfl) | rfl) ?_
      refine OpenK.o ?_
      refine OpenK.o1 (by simp only [go_sem, hp, hsl, hg1, hq, hpq, t1, t2] <;> rfl) ?_
      refine OpenK.o1 (by simp only [go_sem, hp, hsl, hg1, hq, hpq, t1, t2]; (try simp (disch := omega) only [if_pos]); (try simp only [go_sem, hp, hsl, hg1, hq, hpq, t1, t2]) <;> first | (refine ite_run ⟨by (try simp only [List.length_append, List.length_drop, List.length_take, List.length_map, List.length_cons, List.length_nil, List.length_replicate, List.length_set, List.length_range, Nat.zero_add]); omega, by (try simp only [List.length_append, List.length_drop, List.length_take, List.length_map, List.length_cons, List.length_nil, List.length_replicate, List.length_set, List.length_range, Nat.zero_add]); omega, by repeat (first | exact al_nil | assumption | refine al_app ?_ ?_ | refine al_drop ?_ | refine al_take ?_ | exact al_map (fun _ => rfl) | exact al_rep rfl | refine al_cons rfl ?_)⟩ ?_; simp only [go_sem, hp, hsl, hg1, hq, hpq, t1, t2] <;> rfl) | (refine ite_run ⟨by (try simp only [List.length_append, List.length_drop, List.length_take, List.length_map, List.length_cons, List.length_nil, List.length_replicate, List.length_set, List.length_range, Nat.zero_add]); omega, by repeat (first | exact al_nil | assumption | refine al_app ?_ ?_ | refine al_drop ?_ | refine al_take ?_ | exact al_map (fun _ => rfl) | exact al_rep rfl | refine al_cons rfl ?_)⟩ ?_; simp only [go_sem, hp, hsl, hg1, hq, hpq, t1, t2] <;> rfl) | rfl) ?_
      iterate 2 (refine OpenK.o ?_)
      refine OpenK.o1 (by simp only [go_sem, hp, hsl, hg1, hq, hpq, t1, t2]; (try simp (disch := omega) only [if_pos]); (try simp only [go_sem, hp, hsl, hg1, hq, hpq, t1, t2])<;> rfl) ?_
      refine OpenK.o1 (by simp only [go_sem, hp, hsl, hg1, hq, hpq, t1, t2]; (try simp (disch := omega) only [if_pos]); (try simp only [go_sem, hp, hsl, hg1, hq, hpq, t1, t2]) <;> first | (refine ite_run ⟨by (try simp only [List.length_append, List.length_drop, List.length_take, List.length_map, List.length_cons, List.length_nil, List.length_replicate, List.length_set, List.length_range, Nat.zero_add]); omega, by (try simp only [List.length_append, List.length_drop, List.length_take, List.length_map, List.length_cons, List.length_nil, List.length_replicate, List.length_set, List.length_range, Nat.zero_add]); omega, by repeat (first | exact al_nil | assumption | refine al_app ?_ ?_ | refine al_drop ?_ | refine al_take ?_ | exact al_map (fun _ => rfl) | exact al_rep rfl | refine al_cons rfl ?_)⟩ ?_; simp only [go_sem, hp, hsl, hg1, hq, hpq, t1, t2] <;> rfl) | (refine ite_run ⟨by (try simp only [List.length_append, List.length_drop, List.length_take, List.length_map, List.length_cons, List.length_nil, List.length_replicate, List.length_set, List.length_range, Nat.zero_add]); omega, by repeat (first | exact al_nil | assumption | refine al_app ?_ ?_ | refine al_drop ?_ | refine al_take ?_ | exact al_map (fun _ => rfl) | exact al_rep rfl | refine al_cons rfl ?_)⟩ ?_; simp only [go_sem, hp, hsl, hg1, hq, hpq, t1, t2] <;> rfl) | rfl) ?_
      refine OpenK.o ?_
      refine OpenK.nil (OpenE.gho (by decide +kernel) (by decide +kernel) (Ghost.frzA 38) (by simp only [go_sem] <;> rfl) ?_)
      refine BlkK.nrm ?_
      refine Exec.reg1 ?_
      refine Run.o ?_
      refine Run.o1 (by simp only [go_sem, hp, hsl, hg1, hq, hpq, t1, t2]; (try simp (disch := omega) only [IntWalk.i64_in, IntWalk.u64_in, if_neg, if_pos])<;> rfl) ?_
      refine Run.o ?_
      refine Run.nil ?_
      refine ForK.nxt ?_ ?_ ?_
      · omega
      · exact Ghost.kp [1, 3, 4] [1] (by simp only [go_sem, hp, hsl, hg1, hq, hpq, t1, t2]; first | ((repeat' (first | with_reducible_and_instances rfl | refine st_eq ?_ ?_ ?_ | refine ret_eq ?_ | refine tup_eq ?_ | refine tm_eq ?_ ?_ | refine arr_eq ?_ | refine cells_eq ?_ | refine val_eq ?_ | refine ls_eq ?_ ?_ | refine own_eq ?_ ?_ | refine sl_eq ?_ | refine b_eq ?_ | (refine i_eq ?_; omega))); (all_goals (first | (rw [List.take_of_length_le (by simp <;> omega), en]; simp [encNat]; done) | (rw [List.range_succ, List.take_of_length_le (by simp <;> omega), en]; simp [encNat]; done)))) | rfl)
      · trivial
    have hg1 : decide ((k : Int) - j > 0) = false := by simp; omega
    refine Exec.opk 23 ?_
    refine OpenK.o ?_
    iterate 2 (refine OpenK.o1 (by simp only [go_sem, hp, hsl, hg1] <;> rfl) ?_)
    iterate 17 (refine OpenK.s ?_)
    refine OpenK.o1 (by simp only [go_sem, hp, hsl, hg1] <;> rfl) ?_
    refine OpenK.nil (OpenE.finT (by kernel_rfl) (by kernel_rfl) (by kernel_rfl) ?_)
    refine Exec.cndS (by simp only [go_sem, hp, hsl, hg1] <;> rfl) (fun hb35 => ?_) (fun hb35 => ?_)
    · exact absurd hb35 (by simp)
    have hsc : scanE (fun i j => decide ((prOf s i).day < (prOf s j).day)) k (isortE (fun i j => decide ((prOf s i).day < (prOf s j).day)) (List.range k)) k = k - j := by rw [Xj, show k - j = 0 by omega]; rfl
    have en : isortE (fun i j => decide ((prOf s i).day < (prOf s j).day)) (List.range k ++ [k]) = ((isortE (fun i j => decide ((prOf s i).day < (prOf s j).day)) (List.range k))).take (k - j) ++ [k] ++ ((isortE (fun i j => decide ((prOf s i).day < (prOf s j).day)) (List.range k))).drop (k - j) := by
      rw [isortE_snoc]
      unfold insE
      rw [hsl, hsc]
    have t2 : ((k : Int) - j).toNat = k - j := by omega
    refine Exec.exitS ?_
    refine ForK.ext ?_
    refine BlkK.hit ?_
    refine Exec.opk1 15 ?_
    refine OpenK.o1 (by simp only [go_sem, hp, hsl, hg1, t2] <;> rfl) ?_
    iterate 2 (refine OpenK.o ?_)
    refine OpenK.o1 (by simp only [go_sem, hp, hsl, hg1, t2]; (try simp (disch := omega) only [if_pos]); (try simp only [go_sem, hp, hsl, hg1, t2])<;> rfl) ?_
    refine OpenK.o1 (by simp only [go_sem, hp, hsl, hg1, t2]; (try simp (disch := omega) only [if_pos]); (try simp only [go_sem, hp, hsl, hg1, t2]) <;> first | (refine ite_run ⟨by (try simp only [List.length_append, List.length_drop, List.length_take, List.length_map, List.length_cons, List.length_nil, List.length_replicate, List.length_set, List.length_range, Nat.zero_add]); omega, by (try simp only [List.length_append, List.length_drop, List.length_take, List.length_map, List.length_cons, List.length_nil, List.length_replicate, List.length_set, List.length_range, Nat.zero_add]); omega, by repeat (first | exact al_nil | assumption | refine al_app ?_ ?_ | refine al_drop ?_ | refine al_take ?_ | exact al_map (fun _ => rfl) | exact al_rep rfl | refine al_cons rfl ?_)⟩ ?_; simp only [go_sem, hp, hsl, hg1, t2] <;> rfl) | (refine ite_run ⟨by (try simp only [List.length_append, List.length_drop, List.length_take, List.length_map, List.length_cons, List.length_nil, List.length_replicate, List.length_set, List.length_range, Nat.zero_add]); omega, by repeat (first | exact al_nil | assumption | refine al_app ?_ ?_ | refine al_drop ?_ | refine al_take ?_ | exact al_map (fun _ => rfl) | exact al_rep rfl | refine al_cons rfl ?_)⟩ ?_; simp only [go_sem, hp, hsl, hg1, t2] <;> rfl) | rfl) ?_
    refine OpenK.o ?_
    refine OpenK.o1 (by simp only [go_sem, hp, hsl, hg1, t2] <;> rfl) ?_
    refine OpenK.o1 (by simp only [go_sem, hp, hsl, hg1, t2]; (try simp (disch := omega) only [if_pos]); (try simp only [go_sem, hp, hsl, hg1, t2]) <;> first | (refine ite_run ⟨by (try simp only [List.length_append, List.length_drop, List.length_take, List.length_map, List.length_cons, List.length_nil, List.length_replicate, List.length_set, List.length_range, Nat.zero_add]); omega, by (try simp only [List.length_append, List.length_drop, List.length_take, List.length_map, List.length_cons, List.length_nil, List.length_replicate, List.length_set, List.length_range, Nat.zero_add]); omega, by repeat (first | exact al_nil | assumption | refine al_app ?_ ?_ | refine al_drop ?_ | refine al_take ?_ | exact al_map (fun _ => rfl) | exact al_rep rfl | refine al_cons rfl ?_)⟩ ?_; simp only [go_sem, hp, hsl, hg1, t2] <;> rfl) | (refine ite_run ⟨by (try simp only [List.length_append, List.length_drop, List.length_take, List.length_map, List.length_cons, List.length_nil, List.length_replicate, List.length_set, List.length_range, Nat.zero_add]); omega, by repeat (first | exact al_nil | assumption | refine al_app ?_ ?_ | refine al_drop ?_ | refine al_take ?_ | exact al_map (fun _ => rfl) | exact al_rep rfl | refine al_cons rfl ?_)⟩ ?_; simp only [go_sem, hp, hsl, hg1, t2] <;> rfl) | rfl) ?_
    iterate 2 (refine OpenK.o ?_)
    refine OpenK.o1 (by simp only [go_sem, hp, hsl, hg1, t2]; (try simp (disch := omega) only [if_pos]); (try simp only [go_sem, hp, hsl, hg1, t2])<;> rfl) ?_
    refine OpenK.o1 (by simp only [go_sem, hp, hsl, hg1, t2]; (try simp (disch := omega) only [if_pos]); (try simp only [go_sem, hp, hsl, hg1, t2]) <;> first | (refine ite_run ⟨by (try simp only [List.length_append, List.length_drop, List.length_take, List.length_map, List.length_cons, List.length_nil, List.length_replicate, List.length_set, List.length_range, Nat.zero_add]); omega, by (try simp only [List.length_append, List.length_drop, List.length_take, List.length_map, List.length_cons, List.length_nil, List.length_replicate, List.length_set, List.length_range, Nat.zero_add]); omega, by repeat (first | exact al_nil | assumption | refine al_app ?_ ?_ | refine al_drop ?_ | refine al_take ?_ | exact al_map (fun _ => rfl) | exact al_rep rfl | refine al_cons rfl ?_)⟩ ?_; simp only [go_sem, hp, hsl, hg1, t2] <;> rfl) | (refine ite_run ⟨by (try simp only [List.length_append, List.length_drop, List.length_take, List.length_map, List.length_cons, List.length_nil, List.length_replicate, List.length_set, List.length_range, Nat.zero_add]); omega, by repeat (first | exact al_nil | assumption | refine al_app ?_ ?_ | refine al_drop ?_ | refine al_take ?_ | exact al_map (fun _ => rfl) | exact al_rep rfl | refine al_cons rfl ?_)⟩ ?_; simp only [go_sem, hp, hsl, hg1, t2] <;> rfl) | rfl) ?_
    refine OpenK.o ?_
    refine OpenK.nil (OpenE.gho (by decide +kernel) (by decide +kernel) (Ghost.frzA 38) (by simp only [go_sem] <;> rfl) ?_)
    refine BlkK.nrm ?_
    refine Exec.reg1 ?_
    refine Run.o ?_
    refine Run.o1 (by simp only [go_sem, hp, hsl, hg1, t2]; (try simp (disch := omega) only [IntWalk.i64_in, IntWalk.u64_in, if_neg, if_pos])<;> rfl) ?_
    refine Run.o ?_
    refine Run.nil ?_
    refine ForK.nxt ?_ ?_ ?_
    · omega
    · exact Ghost.kp [1, 3, 4] [1] (by simp only [go_sem, hp, hsl, hg1, t2]; first | ((repeat' (first | with_reducible_and_instances rfl | refine st_eq ?_ ?_ ?_ | refine ret_eq ?_ | refine tup_eq ?_ | refine tm_eq ?_ ?_ | refine arr_eq ?_ | refine cells_eq ?_ | refine val_eq ?_ | refine ls_eq ?_ ?_ | refine own_eq ?_ ?_ | refine sl_eq ?_ | refine b_eq ?_ | (refine i_eq ?_; omega))); (all_goals (first | (rw [List.take_of_length_le (by simp <;> omega), en]; simp [encNat]; done) | (rw [List.range_succ, List.take_of_length_le (by simp <;> omega), en]; simp [encNat]; done)))) | rfl)
    · trivial
  have hke : k = s.ps.length := by have := ge_of_dec hb10; omega
  subst hke
  have e : (isortE (fun i j => decide ((prOf s i).day < (prOf s j).day)) (List.range s.ps.length)) = ordI s := rfl
  refine Exec.exitS ?_
  refine ForK.ext ?_
  refine BlkK.hit ?_
  refine Exec.reg ?_
  iterate 2 (refine Run.o ?_)
  refine Run.nil ?_
  exact Ends.fin [] (rs := [.tmp 2]) rfl (by simp only [go_sem, e] <;> rfl) (by simp only [go_sem, e] <;> first | rfl | ((repeat' (first | with_reducible_and_instances rfl | refine st_eq ?_ ?_ ?_ | refine ret_eq ?_ | refine tup_eq ?_ | refine tm_eq ?_ ?_ | refine arr_eq ?_ | refine cells_eq ?_ | refine val_eq ?_ | refine ls_eq ?_ ?_ | refine own_eq ?_ ?_ | refine sl_eq ?_ | refine b_eq ?_ | (refine i_eq ?_; omega))); done))

set_option maxRecDepth 20000 in
/-- meterworks/meterworksref07.force -/
theorem c_meterworksref07_force (s : Stk) (l : List (Int × Int)) (i : Nat) (d : Int) (r : Sl) (t : Int × Int) (hr : s.rs[i]? = some r) (ht : l[i]? = some t) : Contract Try.prog 62 [stkV s, .leaf (.d (tmsD l)), .int i, .int d] (.bool (inForce r t.1 d)) [] := by
  refine con_of follows_mixed Try.func62 rfl (by simp only [List.length_cons, List.length_nil, Try.ntmps62]; omega) (by kernel_rfl) rfl ?_
  refine Exec.reg ?_
  iterate 2 (refine Run.o ?_)
  refine Run.nil ?_
  refine Exec.reg ?_
  refine Run.o ?_
  refine Run.o1 (by simp only [go_sem, hr, ht, inForce] <;> rfl) ?_
  refine Run.o ?_
  refine Run.o1 (by simp only [go_sem, hr, ht, inForce]; (try simp (disch := omega) only [if_pos]); (try simp only [go_sem, hr, ht, inForce])<;> rfl) ?_
  refine Run.o ?_
  refine Run.o1 (by simp only [go_sem, hr, ht, inForce] <;> rfl) ?_
  refine Run.o ?_
  iterate 2 (refine Run.o1 (by simp only [go_sem, hr, ht, inForce] <;> rfl) ?_)
  iterate 3 (refine Run.gop (by simp only [go_sem] <;> rfl) (by simp only [go_sem] <;> rfl) (by simp only [go_sem] <;> rfl) ?_)
  refine Run.gop (by simp only [go_sem] <;> rfl) (by simp only [go_sem, hr, ht, inForce]; (try simp (disch := omega) only [if_pos]); (try simp only [go_sem, hr, ht, inForce])<;> rfl) (by simp only [go_sem] <;> rfl) ?_
  refine Run.gop (by simp only [go_sem] <;> rfl) (by simp only [go_sem] <;> rfl) (by simp only [go_sem] <;> rfl) ?_
  iterate 2 (refine Run.gop (by simp only [go_sem] <;> rfl) (by simp only [go_sem, hr, ht, inForce] <;> rfl) (by simp only [go_sem] <;> rfl) ?_)
  refine Run.o1 (by simp only [go_sem, hr, ht, inForce] <;> rfl) ?_
  refine Run.o ?_
  refine Run.nil ?_
  exact Ends.fin [] (rs := [.tmp 8]) rfl (by simp only [go_sem, hr, ht, inForce] <;> rfl) (by simp only [go_sem, hr, ht, inForce] <;> first | rfl | ((repeat' (first | with_reducible_and_instances rfl | refine st_eq ?_ ?_ ?_ | refine ret_eq ?_ | refine tup_eq ?_ | refine tm_eq ?_ ?_ | refine arr_eq ?_ | refine cells_eq ?_ | refine val_eq ?_ | refine ls_eq ?_ ?_ | refine own_eq ?_ ?_ | refine sl_eq ?_ | refine b_eq ?_ | (refine i_eq ?_; omega))); done))

set_option maxRecDepth 20000 in
set_option maxHeartbeats 2000000 in
/-- meterworks/meterworksref07.Passes -/
theorem c_meterworksref07_Passes (s : Stk) (p : Pf) (c : Cls) (hc : s.cs[p.cl.toNat]? = some c) (h0 : 0 ≤ p.cl) (hf : 0 ≤ p.failed ∧ p.failed ≤ 1048576) : Contract Try.prog 20 [stkV s, pfV p] (.bool (decide ((popc p.failed.toNat : Int) ≤ c.fail))) [] := by
  obtain ⟨f, hfe⟩ : ∃ f : Nat, p.failed = f := ⟨p.failed.toNat, by omega⟩
  have hft : p.failed.toNat = f := by omega
  have hpl := popc_le f
  refine con_of follows_mixed Try.func20 rfl (by simp only [List.length_cons, List.length_nil, Try.ntmps20]; omega) (by kernel_rfl) rfl ?_
  refine Exec.reg ?_
  iterate 3 (refine Run.o ?_)
  refine Run.nil ?_
  refine Exec.opk 6 ?_
  refine OpenK.o ?_
  refine OpenK.o1 (by simp only [go_sem, hfe, hft, hc] <;> rfl) ?_
  iterate 2 (refine OpenK.o ?_)
  refine OpenK.nil (OpenE.fin (by decide +kernel) (by decide +kernel) ?_)
  refine Exec.blk ?_
  refine Exec.whl [2, 3, 5, 6] [2, 3] (fun (t : Nat × Nat) => [.slot 5 (.int (t.1 : Nat)), .slot 6 (.int (t.2 : Nat))]) (fun t => t.1 + popc t.2 = popc f ∧ t.2 ≤ f) (fun t => t.2) ((0, f)) (fun t => by simp only [go_sem] <;> rfl) (by simp only [go_sem, hfe, hft, hc, Int.natCast_zero] <;> rfl) ?_ (fun t hX => ?_)
  · exact ⟨Nat.zero_add _, Nat.le_refl _⟩
  refine Exec.assocS ?_
  refine Exec.reg ?_
  refine Run.o ?_
  refine Run.o1 (by simp only [go_sem, hfe, hft, hc] <;> rfl) ?_
  refine Run.nil ?_
  refine Exec.cndS (by simp only [go_sem, hfe, hft, hc] <;> rfl) (fun hb10 => ?_) (fun hb10 => ?_)
  · skip
    have hlt : 0 < t.2 := by have := of_decide_eq_true hb10; omega
    have hpp := popc_pos (n := t.2) (by omega)
    have e1 : ((t.2 : Int)).tmod 2 = ((t.2 % 2 : Nat) : Int) := by rw [Int.tmod_eq_emod_of_nonneg (by omega)]; omega
    have e2 : ((t.2 : Int)).tdiv 2 = ((t.2 / 2 : Nat) : Int) := by rw [Int.tdiv_eq_ediv_of_nonneg (by omega)]; omega
    have hz : ¬ (2 : Int) = 0 := by omega
    refine Exec.skipS ?_
    refine Exec.blk1 ?_
    refine Exec.reg ?_
    iterate 2 (refine Run.o ?_)
    iterate 2 (refine Run.o1 (by simp only [go_sem, hfe, hft, hc, e1, e2, hz, if_false]; (try simp (disch := omega) only [IntWalk.i64_in, IntWalk.u64_in, if_neg, if_pos])<;> rfl) ?_)
    refine Run.o ?_
    refine Run.nil ?_
    refine Exec.reg1 ?_
    refine Run.o ?_
    refine Run.o1 (by simp only [go_sem, hfe, hft, hc, e1, e2, hz, if_false]; (try simp (disch := omega) only [IntWalk.i64_in, IntWalk.u64_in, if_neg, if_pos])<;> rfl) ?_
    refine Run.o ?_
    refine Run.nil ?_
    refine Blk1K.nrm ?_
    refine WhlK.nxt ((t.1 + t.2 % 2, t.2 / 2)) ?_ ?_ ?_
    · exact Nat.div_lt_self hlt (by omega)
    · exact ⟨by show t.1 + t.2 % 2 + popc (t.2 / 2) = popc f; omega, by show t.2 / 2 ≤ f; omega⟩
    · exact Ghost.kp [2, 3, 5, 6] [2, 3] (by simp only [go_sem, hfe, hft, hc, e1, e2, hz, if_false]; first | ((repeat' (first | with_reducible_and_instances rfl | refine st_eq ?_ ?_ ?_ | refine ret_eq ?_ | refine tup_eq ?_ | refine tm_eq ?_ ?_ | refine arr_eq ?_ | refine cells_eq ?_ | refine val_eq ?_ | refine ls_eq ?_ ?_ | refine own_eq ?_ ?_ | refine sl_eq ?_ | refine b_eq ?_ | (refine i_eq ?_; omega))); done) | rfl)
  have hle : t.2 = 0 := by have := of_decide_eq_false hb10; omega
  have hpz := popc_zero
  have h1 : t.1 = popc f := by have := hX.1; rw [hle, hpz] at this; omega
  refine Exec.exitS ?_
  refine WhlK.ext ?_
  refine BlkK.hit ?_
  refine Exec.reg ?_
  iterate 2 (refine Run.o ?_)
  refine Run.o1 (by simp only [go_sem, hfe, hft, hc, h1] <;> rfl) ?_
  refine Run.o ?_
  refine Run.o1 (by simp only [go_sem, hfe, hft, hc, h1] <;> rfl) ?_
  refine Run.o1 (by simp only [go_sem, hfe, hft, hc, h1]; (try simp (disch := omega) only [if_pos]); (try simp only [go_sem, hfe, hft, hc, h1])<;> rfl) ?_
  refine Run.o ?_
  iterate 2 (refine Run.o1 (by simp only [go_sem, hfe, hft, hc, h1] <;> rfl) ?_)
  refine Run.o ?_
  refine Run.nil ?_
  exact Ends.fin [] (rs := [.tmp 4]) rfl (by simp only [go_sem, hfe, hft, hc, h1] <;> rfl) (by simp only [go_sem, hfe, hft, hc, h1] <;> first | rfl | ((repeat' (first | with_reducible_and_instances rfl | refine st_eq ?_ ?_ ?_ | refine ret_eq ?_ | refine tup_eq ?_ | refine tm_eq ?_ ?_ | refine arr_eq ?_ | refine cells_eq ?_ | refine val_eq ?_ | refine ls_eq ?_ ?_ | refine own_eq ?_ ?_ | refine sl_eq ?_ | refine b_eq ?_ | (refine i_eq ?_; omega))); done))

set_option maxRecDepth 20000 in
/-- meterworks/meterworksref07.status -/
theorem c_meterworksref07_status (s : Stk) (l : List (Int × Int)) (i : Nat) (x d : Int) (h : s.bs.length ≤ 100) (hi : i < s.rs.length) (hl : l.length = s.rs.length) : Contract Try.prog 30 [stkV s, .leaf (.d (tmsD l)), .int i, .int x, .int d] (.int (stSeal s l i x d)) [] := by
  have hr := rowOf_get hi
  have ht : l[i]? = some (endAt l i) := by rw [List.getElem?_eq_getElem (by omega)]; simp [endAt, List.getD, List.getElem?_eq_getElem (show i < l.length by omega)]
  refine con_of follows_mixed Try.func30 rfl (by simp only [List.length_cons, List.length_nil, Try.ntmps30]; omega) (by kernel_rfl) rfl ?_
  refine Exec.reg ?_
  iterate 2 (refine Run.o ?_)
  refine Run.nil ?_
  refine Exec.assocS ?_
  refine Exec.reg ?_
  iterate 2 (refine Run.o ?_)
  refine Run.o1 (by simp only [go_sem, hr, ht] <;> rfl) ?_
  refine Run.o ?_
  refine Run.o1 (by simp only [go_sem, hr, ht]; (try simp (disch := omega) only [if_pos]); (try simp only [go_sem, hr, ht])<;> rfl) ?_
  refine Run.o ?_
  iterate 2 (refine Run.o1 (by simp only [go_sem, hr, ht] <;> rfl) ?_)
  refine Run.nil ?_
  refine Exec.cndS (by simp only [go_sem, hr, ht] <;> rfl) (fun hb18 => ?_) (fun hb18 => ?_)
  · skip
    have hr0 : stSeal s l i x d = 0 := by unfold stSeal; rw [if_pos (of_decide_eq_true hb18)]
    refine Exec.assocS ?_
    refine Exec.reg ?_
    refine Run.o ?_
    refine Run.nil ?_
    refine Exec.retS ?_
    exact Ends.fin [] (rs := [.tmp 10]) rfl (by simp only [go_sem, hr, ht, hr0] <;> rfl) (by simp only [go_sem, hr, ht, hr0] <;> first | rfl | ((repeat' (first | with_reducible_and_instances rfl | refine st_eq ?_ ?_ ?_ | refine ret_eq ?_ | refine tup_eq ?_ | refine tm_eq ?_ ?_ | refine arr_eq ?_ | refine cells_eq ?_ | refine val_eq ?_ | refine ls_eq ?_ ?_ | refine own_eq ?_ ?_ | refine sl_eq ?_ | refine b_eq ?_ | (refine i_eq ?_; omega))); done))
  refine Exec.skipS ?_
  refine Exec.assocS ?_
  refine Exec.reg ?_
  refine Run.o1 (by simp only [go_sem, hr, ht] <;> rfl) ?_
  iterate 2 (refine Run.o ?_)
  refine Run.c1 (c_meterworksref07_IsBroken s x d h) (by simp only [go_sem, hr, ht] <;> rfl) (by simp only [go_sem, hr, ht] <;> rfl) ?_
  refine Run.nil ?_
  refine Exec.cndS (by simp only [go_sem, hr, ht] <;> rfl) (fun hb22 => ?_) (fun hb22 => ?_)
  · skip
    have hr0 : stSeal s l i x d = 3 := by unfold stSeal; rw [if_neg (of_decide_eq_false hb18), if_pos hb22]
    refine Exec.assocS ?_
    refine Exec.reg ?_
    refine Run.o ?_
    refine Run.nil ?_
    refine Exec.retS ?_
    exact Ends.fin [] (rs := [.tmp 10]) rfl (by simp only [go_sem, hr, ht, hr0] <;> rfl) (by simp only [go_sem, hr, ht, hr0] <;> first | rfl | ((repeat' (first | with_reducible_and_instances rfl | refine st_eq ?_ ?_ ?_ | refine ret_eq ?_ | refine tup_eq ?_ | refine tm_eq ?_ ?_ | refine arr_eq ?_ | refine cells_eq ?_ | refine val_eq ?_ | refine ls_eq ?_ ?_ | refine own_eq ?_ ?_ | refine sl_eq ?_ | refine b_eq ?_ | (refine i_eq ?_; omega))); done))
  refine Exec.skipS ?_
  refine Exec.assocS ?_
  refine Exec.reg ?_
  iterate 3 (refine Run.o ?_)
  refine Run.o1 (by simp only [go_sem, hr, ht]; (try simp (disch := omega) only [if_pos]); (try simp only [go_sem, hr, ht])<;> rfl) ?_
  refine Run.o ?_
  iterate 2 (refine Run.o1 (by simp only [go_sem, hr, ht] <;> rfl) ?_)
  refine Run.nil ?_
  refine Exec.cndS (by simp only [go_sem, hr, ht] <;> rfl) (fun hb29 => ?_) (fun hb29 => ?_)
  · skip
    have hr0 : stSeal s l i x d = 1 := by unfold stSeal; rw [if_neg (of_decide_eq_false hb18), if_neg (by rw [hb22]; decide), if_pos (of_decide_eq_true hb29)]
    refine Exec.assocS ?_
    refine Exec.reg ?_
    refine Run.o ?_
    refine Run.nil ?_
    refine Exec.retS ?_
    exact Ends.fin [] (rs := [.tmp 10]) rfl (by simp only [go_sem, hr, ht, hr0] <;> rfl) (by simp only [go_sem, hr, ht, hr0] <;> first | rfl | ((repeat' (first | with_reducible_and_instances rfl | refine st_eq ?_ ?_ ?_ | refine ret_eq ?_ | refine tup_eq ?_ | refine tm_eq ?_ ?_ | refine arr_eq ?_ | refine cells_eq ?_ | refine val_eq ?_ | refine ls_eq ?_ ?_ | refine own_eq ?_ ?_ | refine sl_eq ?_ | refine b_eq ?_ | (refine i_eq ?_; omega))); done))
  have hr0 : stSeal s l i x d = 2 := by unfold stSeal; rw [if_neg (of_decide_eq_false hb18), if_neg (by rw [hb22]; decide), if_neg (of_decide_eq_false hb29)]
  refine Exec.skipS ?_
  refine Exec.reg ?_
  refine Run.o ?_
  refine Run.nil ?_
  exact Ends.fin [] (rs := [.tmp 10]) rfl (by simp only [go_sem, hr, ht, hr0] <;> rfl) (by simp only [go_sem, hr, ht, hr0] <;> first | rfl | ((repeat' (first | with_reducible_and_instances rfl | refine st_eq ?_ ?_ ?_ | refine ret_eq ?_ | refine tup_eq ?_ | refine tm_eq ?_ ?_ | refine arr_eq ?_ | refine cells_eq ?_ | refine val_eq ?_ | refine ls_eq ?_ ?_ | refine own_eq ?_ ?_ | refine sl_eq ?_ | refine b_eq ?_ | (refine i_eq ?_; omega))); done))

end Go.Mw
namespace Go.Mw
open Go.Proofs
open Go.Te
theorem stepN {s : Stk} {p : Pf} {r : Sl} {t : Int × Int} (h : (r.cl != p.cl || !inForce r t.1 p.day) = true) : step1 s p r t = t := by
  unfold step1
  rw [if_neg]
  rintro ⟨h1, h2⟩
  simp [h1, h2] at h
theorem stepI {r : Sl} {p : Pf} {t : Int × Int} (h : (r.cl != p.cl || !inForce r t.1 p.day) = false) : r.cl = p.cl ∧ inForce r t.1 p.day = true := by simpa using h
theorem stepF {s : Stk} {p : Pf} {r : Sl} {t : Int × Int} (h : r.cl = p.cl ∧ inForce r t.1 p.day = true) (h1 : passB s p = false) : step1 s p r t = (p.day + 1, t.2) := by
  unfold step1; rw [if_pos h, if_pos h1]
theorem stepM {s : Stk} {p : Pf} {r : Sl} {t : Int × Int} (h : r.cl = p.cl ∧ inForce r t.1 p.day = true) (h1 : passB s p = true) (h2 : t.2 < (clsOf s p.cl).times) : step1 s p r t = (t.1 + (clsOf s p.cl).more, t.2 + 1) := by
  unfold step1; rw [if_pos h, if_neg (by rw [h1]; decide), if_pos h2]
theorem stepX {s : Stk} {p : Pf} {r : Sl} {t : Int × Int} (h : r.cl = p.cl ∧ inForce r t.1 p.day = true) (h1 : passB s p = true) (h2 : ¬ t.2 < (clsOf s p.cl).times) : step1 s p r t = t := by
  unfold step1; rw [if_pos h, if_neg (by rw [h1]; decide), if_neg h2]
set_option maxRecDepth 20000 in
set_option maxHeartbeats 8000000 in
/-- meterworks/meterworksref07.after -/
theorem c_meterworksref07_after (s : Stk) (v : Val s) (p : Pf) (hpm : p ∈ s.ps) (l : List (Int × Int)) (hl : TmB s l) : Contract Try.prog 44 [stkV s, .leaf (.d (tmsD l)), pfV p] (.leaf (.d (tmsD (aftT s p l)))) [] := by
  have hrs := v.nrs
  have hps := v.prf p hpm
  have hll := hl.len
  have hc := clsOf_get hps.1.1 hps.1.2
  have hcb := v.cls _ (cls_mem hps.1.1 hps.1.2)
  have ep : decide ((popc p.failed.toNat : Int) ≤ (clsOf s p.cl).fail) = passB s p := rfl
  refine con_of follows_mixed Try.func44 rfl (by simp only [List.length_cons, List.length_nil, Try.ntmps44]; omega) (by kernel_rfl) rfl ?_
  refine Exec.reg ?_
  iterate 3 (refine Run.o1 (by simp only [go_sem, hc, ep] <;> rfl) ?_)
  refine Run.nil ?_
  refine Exec.reg ?_
  iterate 2 (refine Run.o1 (by simp only [go_sem, hc, ep] <;> rfl) ?_)
  refine Run.o1 (by simp only [go_sem, hc, ep]; (try simp (disch := omega) only [if_pos]); (try simp only [go_sem, hc, ep]) <;> first | (refine ite_run ⟨by (try simp only [List.length_append, List.length_drop, List.length_take, List.length_map, List.length_cons, List.length_nil, List.length_replicate, List.length_set, List.length_range, Nat.zero_add]); omega, by (try simp only [List.length_append, List.length_drop, List.length_take, List.length_map, List.length_cons, List.length_nil, List.length_replicate, List.length_set, List.length_range, Nat.zero_add]); omega, by repeat (first | exact al_nil | assumption | refine al_app ?_ ?_ | refine al_drop ?_ | refine al_take ?_ | exact al_map (fun _ => rfl) | exact al_rep rfl | refine al_cons rfl ?_)⟩ ?_; simp only [go_sem, hc, ep] <;> rfl) | (refine ite_run ⟨by (try simp only [List.length_append, List.length_drop, List.length_take, List.length_map, List.length_cons, List.length_nil, List.length_replicate, List.length_set, List.length_range, Nat.zero_add]); omega, by repeat (first | exact al_nil | assumption | refine al_app ?_ ?_ | refine al_drop ?_ | refine al_take ?_ | exact al_map (fun _ => rfl) | exact al_rep rfl | refine al_cons rfl ?_)⟩ ?_; simp only [go_sem, hc, ep] <;> rfl) | rfl) ?_
  refine Run.o1 (by simp only [go_sem, hc, ep] <;> rfl) ?_
  refine Run.nil ?_
  refine Exec.reg ?_
  iterate 4 (refine Run.o1 (by simp only [go_sem, hc, ep] <;> rfl) ?_)
  refine Run.o1 (by simp only [go_sem, hc, ep]; (try simp (disch := omega) only [if_pos]); (try simp only [go_sem, hc, ep])<;> rfl) ?_
  iterate 3 (refine Run.o1 (by simp only [go_sem, hc, ep] <;> rfl) ?_)
  refine Run.nil ?_
  refine Exec.assocS ?_
  refine Exec.reg ?_
  refine Run.o1 (by simp only [go_sem, hc, ep] <;> rfl) ?_
  refine Run.nil ?_
  refine Exec.blk ?_
  refine Exec.forA [1, 3, 5, 7, 8, 9] [3, 5, 8, 10] (s.rs.length) (fun k => [.slot 9 (.int k), .obj 10 (.arr 80 2 ((aftK s p l k).map encTm))]) (fun _ => True) (fun k => by simp only [go_sem] <;> rfl) (by simp only [go_sem, hc, ep, aft_zero, Int.natCast_zero] <;> rfl) ?_ (fun k hk hX => ?_)
  · trivial
  · skip
    have hal := aft_len (p := p) hll (k := k) hk
    refine Exec.assocS ?_
    refine Exec.reg ?_
    iterate 4 (refine Run.o1 (by simp only [go_sem, hc, ep, hal, hll] <;> rfl) ?_)
    refine Run.nil ?_
    refine Exec.cndS (by simp only [go_sem, hc, ep, hal, hll] <;> rfl) (fun hb22 => ?_) (fun hb22 => ?_)
    · skip
      have hlt : k < l.length := by have h := of_decide_eq_true hb22; omega
      have hr := rowOf_get (s := s) (i := k) (by omega)
      obtain ⟨t, ht⟩ : ∃ t, l[k]? = some t := ⟨_, List.getElem?_eq_getElem hlt⟩
      have htb := hl.bnd t (List.mem_of_getElem? ht)
      have hat := aft_at (p := p) hll ht
      have hss : ∀ y, (((aftK s p l k).map encTm).set k y)[k]? = some y := fun y => List.getElem?_set_self (by rw [List.length_map]; omega)
      refine Exec.skipS ?_
      refine Exec.blk ?_
      refine Exec.assocS ?_
      refine Exec.opk 20 ?_
      refine OpenK.o1 (by simp only [go_sem, hc, ep, hal, hll, hr, ht, hat, hss, List.set_set] <;> rfl) ?_
      refine OpenK.o1 (by simp only [go_sem, hc, ep, hal, hll, hr, ht, hat, hss, List.set_set] <;> rfl) ?_
      refine OpenK.o1 (by simp only [go_sem, hc, ep, hal, hll, hr, ht, hat, hss, List.set_set] <;> rfl) ?_
      refine OpenK.o1 (by simp only [go_sem, hc, ep, hal, hll, hr, ht, hat, hss, List.set_set]; (try simp (disch := omega) only [if_pos]); (try simp only [go_sem, hc, ep, hal, hll, hr, ht, hat, hss, List.set_set])<;> rfl) ?_
      refine OpenK.o1 (by simp only [go_sem, hc, ep, hal, hll, hr, ht, hat, hss, List.set_set] <;> rfl) ?_
      refine OpenK.o1 (by simp only [go_sem, hc, ep, hal, hll, hr, ht, hat, hss, List.set_set] <;> rfl) ?_
      refine OpenK.o1 (by simp only [go_sem, hc, ep, hal, hll, hr, ht, hat, hss, List.set_set] <;> rfl) ?_
      refine OpenK.o1 (by simp only [go_sem, hc, ep, hal, hll, hr, ht, hat, hss, List.set_set] <;> rfl) ?_
      refine OpenK.o1 (by simp only [go_sem, hc, ep, hal, hll, hr, ht, hat, hss, List.set_set] <;> rfl) ?_
      refine OpenK.o1 (by simp only [go_sem, hc, ep, hal, hll, hr, ht, hat, hss, List.set_set] <;> rfl) ?_
      refine OpenK.gop (by simp only [go_sem] <;> rfl) (by simp only [go_sem, hc, ep, hal, hll, hr, ht, hat, hss, List.set_set] <;> rfl) (by simp only [go_sem] <;> rfl) ?_
      refine OpenK.gop (by simp only [go_sem] <;> rfl) (by simp only [go_sem, hc, ep, hal, hll, hr, ht, hat, hss, List.set_set] <;> rfl) (by simp only [go_sem] <;> rfl) ?_
      refine OpenK.gop (by simp only [go_sem] <;> rfl) (by simp only [go_sem, hc, ep, hal, hll, hr, ht, hat, hss, List.set_set] <;> rfl) (by simp only [go_sem] <;> rfl) ?_
      refine OpenK.gop (by simp only [go_sem] <;> rfl) (by simp only [go_sem, hc, ep, hal, hll, hr, ht, hat, hss, List.set_set] <;> rfl) (by simp only [go_sem] <;> rfl) ?_
      refine OpenK.gop (by simp only [go_sem] <;> rfl) (by simp only [go_sem, hc, ep, hal, hll, hr, ht, hat, hss, List.set_set] <;> rfl) (by simp only [go_sem] <;> rfl) ?_
      refine OpenK.gcal (by simp only [go_sem] <;> rfl) (c_meterworksref07_force s l k p.day (rowOf s k) t hr ht) (by simp only [go_sem]) (by simp only [go_sem, hc, ep, hal, hll, hr, ht, hat, hss, List.set_set] <;> rfl) (by exact ⟨by first | exact WkR.pure rfl | exact WkR.nil _ | exact WkR.int (by first | omega | (simp; done) | (simp; omega)), by first | exact WkR.pure rfl | exact WkR.nil _ | exact WkR.int (by first | omega | (simp; done) | (simp; omega)), by first | exact WkR.pure rfl | exact WkR.nil _ | exact WkR.int (by first | omega | (simp; done) | (simp; omega)), by first | exact WkR.pure rfl | exact WkR.nil _ | exact WkR.int (by first | omega | (simp; done) | (simp; omega)), trivial⟩) (by simp only [go_sem, hc, ep, hal, hll, hr, ht, hat, hss, List.set_set] <;> rfl) (by simp only [go_sem] <;> rfl) ?_
      refine OpenK.gop (by simp only [go_sem] <;> rfl) (by simp only [go_sem, hc, ep, hal, hll, hr, ht, hat, hss, List.set_set] <;> rfl) (by simp only [go_sem] <;> rfl) ?_
      refine OpenK.o1 (by simp only [go_sem, hc, ep, hal, hll, hr, ht, hat, hss, List.set_set] <;> rfl) ?_
      refine OpenK.nil (OpenE.finT (by kernel_rfl) (by kernel_rfl) (by kernel_rfl) ?_)
      refine Exec.cndS (by simp only [go_sem, hc, ep, hal, hll, hr, ht, hat, hss, List.set_set] <;> rfl) (fun hb42 => ?_) (fun hb42 => ?_)
      · skip
        have hsk := aft_same hll ht (by rw [rowOf_of hr]; exact stepN hb42)
        refine Exec.exitS ?_
        refine BlkK.hit ?_
        refine Exec.reg1 ?_
        refine Run.o1 (by simp only [go_sem, hc, ep, hal, hll, hr, ht, hat, hss, List.set_set, hsk] <;> rfl) ?_
        refine Run.o1 (by simp only [go_sem, hc, ep, hal, hll, hr, ht, hat, hss, List.set_set, hsk]; (try simp (disch := omega) only [IntWalk.i64_in, IntWalk.u64_in, if_neg, if_pos])<;> rfl) ?_
        refine Run.o1 (by simp only [go_sem, hc, ep, hal, hll, hr, ht, hat, hss, List.set_set, hsk] <;> rfl) ?_
        refine Run.nil ?_
        refine ForK.nxt ?_ ?_ ?_
        · omega
        · exact Ghost.kp [1, 3, 5, 7, 8, 9] [3, 5, 8, 10] (by simp only [go_sem, hc, ep, hal, hll, hr, ht, hat, hss, List.set_set, hsk]; first | ((repeat' (first | with_reducible_and_instances rfl | refine st_eq ?_ ?_ ?_ | refine ret_eq ?_ | refine tup_eq ?_ | refine tm_eq ?_ ?_ | refine arr_eq ?_ | refine cells_eq ?_ | refine val_eq ?_ | refine ls_eq ?_ ?_ | refine own_eq ?_ ?_ | refine sl_eq ?_ | refine b_eq ?_ | (refine i_eq ?_; omega))); done) | rfl)
        · trivial
      · skip
        have hin := stepI hb42
        refine Exec.skipS ?_
        refine Exec.reg ?_
        iterate 2 (refine Run.o1 (by simp only [go_sem, hc, ep, hal, hll, hr, ht, hat, hss, List.set_set] <;> rfl) ?_)
        refine Run.c1 (c_meterworksref07_Passes s p (clsOf s p.cl) hc hps.1.1 (by omega)) (by simp only [go_sem, hc, ep, hal, hll, hr, ht, hat, hss, List.set_set] <;> rfl) (by simp only [go_sem, hc, ep, hal, hll, hr, ht, hat, hss, List.set_set] <;> rfl) ?_
        refine Run.o1 (by simp only [go_sem, hc, ep, hal, hll, hr, ht, hat, hss, List.set_set] <;> rfl) ?_
        refine Run.nil ?_
        refine Exec.cnd (by simp only [go_sem, hc, ep, hal, hll, hr, ht, hat, hss, List.set_set] <;> rfl) (fun hb46 => ?_) (fun hb46 => ?_)
        · skip
          have hst := stepF (s := s) hin (by simpa using hb46)
          have hsk := aft_succ (p := p) hll ht
          rw [hst] at hsk
          refine Exec.reg1 ?_
          iterate 4 (refine Run.o1 (by simp only [go_sem, hc, ep, hal, hll, hr, ht, hat, hss, List.set_set, hsk, List.map_set] <;> rfl) ?_)
          refine Run.o1 (by simp only [go_sem, hc, ep, hal, hll, hr, ht, hat, hss, List.set_set, hsk, List.map_set]; (try simp (disch := omega) only [IntWalk.i64_in, IntWalk.u64_in, if_neg, if_pos])<;> rfl) ?_
          refine Run.o1 (by simp only [go_sem, hc, ep, hal, hll, hr, ht, hat, hss, List.set_set, hsk, List.map_set]; (try simp (disch := omega) only [if_pos]); (try simp only [go_sem, hc, ep, hal, hll, hr, ht, hat, hss, List.set_set, hsk, List.map_set])<;> rfl) ?_
          iterate 2 (refine Run.o1 (by simp only [go_sem, hc, ep, hal, hll, hr, ht, hat, hss, List.set_set, hsk, List.map_set] <;> rfl) ?_)
          refine Run.nil ?_
          refine BlkK.nrm ?_
          refine Exec.reg1 ?_
          refine Run.o1 (by simp only [go_sem, hc, ep, hal, hll, hr, ht, hat, hss, List.set_set, hsk, List.map_set] <;> rfl) ?_
          refine Run.o1 (by simp only [go_sem, hc, ep, hal, hll, hr, ht, hat, hss, List.set_set, hsk, List.map_set]; (try simp (disch := omega) only [IntWalk.i64_in, IntWalk.u64_in, if_neg, if_pos])<;> rfl) ?_
          refine Run.o1 (by simp only [go_sem, hc, ep, hal, hll, hr, ht, hat, hss, List.set_set, hsk, List.map_set] <;> rfl) ?_
          refine Run.nil ?_
          refine ForK.nxt ?_ ?_ ?_
          · omega
          · exact Ghost.kp [1, 3, 5, 7, 8, 9] [3, 5, 8, 10] (by simp only [go_sem, hc, ep, hal, hll, hr, ht, hat, hss, List.set_set, hsk, List.map_set]; first | ((repeat' (first | with_reducible_and_instances rfl | refine st_eq ?_ ?_ ?_ | refine ret_eq ?_ | refine tup_eq ?_ | refine tm_eq ?_ ?_ | refine arr_eq ?_ | refine cells_eq ?_ | refine val_eq ?_ | refine ls_eq ?_ ?_ | refine own_eq ?_ ?_ | refine sl_eq ?_ | refine b_eq ?_ | (refine i_eq ?_; omega))); done) | rfl)
          · trivial
        · skip
          have hpass : passB s p = true := by simpa using hb46
          refine Exec.opk 10 ?_
          refine OpenK.o1 (by simp only [go_sem, hc, ep, hal, hll, hr, ht, hat, hss, List.set_set] <;> rfl) ?_
          refine OpenK.o1 (by simp only [go_sem, hc, ep, hal, hll, hr, ht, hat, hss, List.set_set] <;> rfl) ?_
          refine OpenK.o1 (by simp only [go_sem, hc, ep, hal, hll, hr, ht, hat, hss, List.set_set]; (try simp (disch := omega) only [if_pos]); (try simp only [go_sem, hc, ep, hal, hll, hr, ht, hat, hss, List.set_set])<;> rfl) ?_
          refine OpenK.o1 (by simp only [go_sem, hc, ep, hal, hll, hr, ht, hat, hss, List.set_set] <;> rfl) ?_
          refine OpenK.o1 (by simp only [go_sem, hc, ep, hal, hll, hr, ht, hat, hss, List.set_set] <;> rfl) ?_
          refine OpenK.o1 (by simp only [go_sem, hc, ep, hal, hll, hr, ht, hat, hss, List.set_set] <;> rfl) ?_
          refine OpenK.o1 (by simp only [go_sem, hc, ep, hal, hll, hr, ht, hat, hss, List.set_set] <;> rfl) ?_
          refine OpenK.o1 (by simp only [go_sem, hc, ep, hal, hll, hr, ht, hat, hss, List.set_set] <;> rfl) ?_
          refine OpenK.nil (OpenE.fin (by decide +kernel) (by decide +kernel) ?_)
          refine Exec.cnd (by simp only [go_sem, hc, ep, hal, hll, hr, ht, hat, hss, List.set_set] <;> rfl) (fun hb61 => ?_) (fun hb61 => ?_)
          · skip
            have hst := stepM (s := s) hin hpass (of_decide_eq_true hb61)
            have hsk := aft_succ (p := p) hll ht
            rw [hst] at hsk
            refine Exec.opk 15 ?_
            refine OpenK.o1 (by simp only [go_sem, hc, ep, hal, hll, hr, ht, hat, hss, List.set_set, hsk, List.map_set] <;> rfl) ?_
            refine OpenK.o1 (by simp only [go_sem, hc, ep, hal, hll, hr, ht, hat, hss, List.set_set, hsk, List.map_set] <;> rfl) ?_
            refine OpenK.o1 (by simp only [go_sem, hc, ep, hal, hll, hr, ht, hat, hss, List.set_set, hsk, List.map_set] <;> rfl) ?_
            refine OpenK.o1 (by simp only [go_sem, hc, ep, hal, hll, hr, ht, hat, hss, List.set_set, hsk, List.map_set] <;> rfl) ?_
            refine OpenK.o1 (by simp only [go_sem, hc, ep, hal, hll, hr, ht, hat, hss, List.set_set, hsk, List.map_set]; (try simp (disch := omega) only [if_pos]); (try simp only [go_sem, hc, ep, hal, hll, hr, ht, hat, hss, List.set_set, hsk, List.map_set])<;> rfl) ?_
            refine OpenK.o1 (by simp only [go_sem, hc, ep, hal, hll, hr, ht, hat, hss, List.set_set, hsk, List.map_set] <;> rfl) ?_
            refine OpenK.o1 (by simp only [go_sem, hc, ep, hal, hll, hr, ht, hat, hss, List.set_set, hsk, List.map_set] <;> rfl) ?_
            refine OpenK.o1 (by simp only [go_sem, hc, ep, hal, hll, hr, ht, hat, hss, List.set_set, hsk, List.map_set] <;> rfl) ?_
            refine OpenK.o1 (by simp only [go_sem, hc, ep, hal, hll, hr, ht, hat, hss, List.set_set, hsk, List.map_set] <;> rfl) ?_
            refine OpenK.o1 (by simp only [go_sem, hc, ep, hal, hll, hr, ht, hat, hss, List.set_set, hsk, List.map_set]; (try simp (disch := omega) only [IntWalk.i64_in, IntWalk.u64_in, if_neg, if_pos])<;> rfl) ?_
            refine OpenK.o1 (by simp only [go_sem, hc, ep, hal, hll, hr, ht, hat, hss, List.set_set, hsk, List.map_set]; (try simp (disch := omega) only [if_pos]); (try simp only [go_sem, hc, ep, hal, hll, hr, ht, hat, hss, List.set_set, hsk, List.map_set])<;> rfl) ?_
            refine OpenK.o1 (by simp only [go_sem, hc, ep, hal, hll, hr, ht, hat, hss, List.set_set, hsk, List.map_set] <;> rfl) ?_
            refine OpenK.o1 (by simp only [go_sem, hc, ep, hal, hll, hr, ht, hat, hss, List.set_set, hsk, List.map_set] <;> rfl) ?_
            refine OpenK.nil (OpenE.fin (by decide +kernel) (by decide +kernel) ?_)
            refine Exec.reg1 ?_
            iterate 4 (refine Run.o1 (by simp only [go_sem, hc, ep, hal, hll, hr, ht, hat, hss, List.set_set, hsk, List.map_set] <;> rfl) ?_)
            refine Run.o1 (by simp only [go_sem, hc, ep, hal, hll, hr, ht, hat, hss, List.set_set, hsk, List.map_set]; (try simp (disch := omega) only [if_pos]); (try simp only [go_sem, hc, ep, hal, hll, hr, ht, hat, hss, List.set_set, hsk, List.map_set])<;> rfl) ?_
            iterate 2 (refine Run.o1 (by simp only [go_sem, hc, ep, hal, hll, hr, ht, hat, hss, List.set_set, hsk, List.map_set] <;> rfl) ?_)
            refine Run.o1 (by simp only [go_sem, hc, ep, hal, hll, hr, ht, hat, hss, List.set_set, hsk, List.map_set]; (try simp (disch := omega) only [IntWalk.i64_in, IntWalk.u64_in, if_neg, if_pos])<;> rfl) ?_
            refine Run.o1 (by simp only [go_sem, hc, ep, hal, hll, hr, ht, hat, hss, List.set_set, hsk, List.map_set]; (try simp (disch := omega) only [if_pos]); (try simp only [go_sem, hc, ep, hal, hll, hr, ht, hat, hss, List.set_set, hsk, List.map_set])<;> rfl) ?_
            iterate 2 (refine Run.o1 (by simp only [go_sem, hc, ep, hal, hll, hr, ht, hat, hss, List.set_set, hsk, List.map_set] <;> rfl) ?_)
            refine Run.nil ?_
            refine BlkK.nrm ?_
            refine Exec.reg1 ?_
            refine Run.o1 (by simp only [go_sem, hc, ep, hal, hll, hr, ht, hat, hss, List.set_set, hsk, List.map_set] <;> rfl) ?_
            refine Run.o1 (by simp only [go_sem, hc, ep, hal, hll, hr, ht, hat, hss, List.set_set, hsk, List.map_set]; (try simp (disch := omega) only [IntWalk.i64_in, IntWalk.u64_in, if_neg, if_pos])<;> rfl) ?_
            refine Run.o1 (by simp only [go_sem, hc, ep, hal, hll, hr, ht, hat, hss, List.set_set, hsk, List.map_set] <;> rfl) ?_
            refine Run.nil ?_
            refine ForK.nxt ?_ ?_ ?_
            · omega
            · exact Ghost.kp [1, 3, 5, 7, 8, 9] [3, 5, 8, 10] (by simp only [go_sem, hc, ep, hal, hll, hr, ht, hat, hss, List.set_set, hsk, List.map_set]; first | ((repeat' (first | with_reducible_and_instances rfl | refine st_eq ?_ ?_ ?_ | refine ret_eq ?_ | refine tup_eq ?_ | refine tm_eq ?_ ?_ | refine arr_eq ?_ | refine cells_eq ?_ | refine val_eq ?_ | refine ls_eq ?_ ?_ | refine own_eq ?_ ?_ | refine sl_eq ?_ | refine b_eq ?_ | (refine i_eq ?_; omega))); done) | rfl)
            · trivial
          · skip
            have hsk := aft_same hll ht (stepX (s := s) hin hpass (of_decide_eq_false hb61))
            refine BlkK.nrm ?_
            refine Exec.reg1 ?_
            refine Run.o1 (by simp only [go_sem, hc, ep, hal, hll, hr, ht, hat, hss, List.set_set, hsk] <;> rfl) ?_
            refine Run.o1 (by simp only [go_sem, hc, ep, hal, hll, hr, ht, hat, hss, List.set_set, hsk]; (try simp (disch := omega) only [IntWalk.i64_in, IntWalk.u64_in, if_neg, if_pos])<;> rfl) ?_
            refine Run.o1 (by simp only [go_sem, hc, ep, hal, hll, hr, ht, hat, hss, List.set_set, hsk] <;> rfl) ?_
            refine Run.nil ?_
            refine ForK.nxt ?_ ?_ ?_
            · omega
            · exact Ghost.kp [1, 3, 5, 7, 8, 9] [3, 5, 8, 10] (by simp only [go_sem, hc, ep, hal, hll, hr, ht, hat, hss, List.set_set, hsk]; first | ((repeat' (first | with_reducible_and_instances rfl | refine st_eq ?_ ?_ ?_ | refine ret_eq ?_ | refine tup_eq ?_ | refine tm_eq ?_ ?_ | refine arr_eq ?_ | refine cells_eq ?_ | refine val_eq ?_ | refine ls_eq ?_ ?_ | refine own_eq ?_ ?_ | refine sl_eq ?_ | refine b_eq ?_ | (refine i_eq ?_; omega))); done) | rfl)
            · trivial
    · skip
      have hge : s.rs.length ≤ k := by have h := of_decide_eq_false hb22; omega
      have hta := aft_end (p := p) hll hge
      have hlen := aftT_len (p := p) hll
      refine Exec.exitS ?_
      refine ForK.ext ?_
      refine BlkK.hit ?_
      refine Exec.reg ?_
      refine Run.frz 10 (by simp only [go_sem, hta, hlen] <;> rfl) ?_
      iterate 2 (refine Run.o1 (by simp only [go_sem, hc, ep, hal, hll, hta, hlen] <;> rfl) ?_)
      refine Run.nil ?_
      exact Ends.fin [] (rs := [.tmp 6]) rfl (by simp only [go_sem, hc, ep, hal, hll, hta, hlen] <;> rfl) (by simp only [go_sem, hc, ep, hal, hll, hta, hlen] <;> first | rfl | ((repeat' (first | with_reducible_and_instances rfl | refine st_eq ?_ ?_ ?_ | refine ret_eq ?_ | refine tup_eq ?_ | refine tm_eq ?_ ?_ | refine arr_eq ?_ | refine cells_eq ?_ | refine val_eq ?_ | refine ls_eq ?_ ?_ | refine own_eq ?_ ?_ | refine sl_eq ?_ | refine b_eq ?_ | (refine i_eq ?_; omega))); (all_goals (first | rfl | (rw [List.take_of_length_le (by simp <;> omega)])))))

set_option maxRecDepth 20000 in
set_option maxHeartbeats 8000000 in
/-- meterworks/meterworksref07.proof -/
theorem c_meterworksref07_proof (s : Stk) (v : Val s) (p : Pf) (hpm : p ∈ s.ps) (l : List (Int × Int)) (hl : TmB s l) : Contract Try.prog 43 [stkV s, .leaf (.d (tmsD l)), pfV p] (.int (prfErr s l p)) [] := by
  have hrs := v.nrs
  have hbs := v.nbs
  have hps := v.prf p hpm
  have hll := hl.len
  refine con_of follows_mixed Try.func43 rfl (by simp only [List.length_cons, List.length_nil, Try.ntmps43]; omega) (by kernel_rfl) rfl ?_
  refine Exec.reg ?_
  iterate 3 (refine Run.o ?_)
  refine Run.nil ?_
  refine Exec.assocS ?_
  refine Exec.reg ?_
  refine Run.o ?_
  refine Run.nil ?_
  refine Exec.blk ?_
  refine Exec.forA [1, 3, 5, 7] [3, 5] (p.seals.length) (fun k => [.slot 7 (.int k)]) (fun k => ∀ j, j < k → sealErr s l p j = 0) (fun k => by simp only [go_sem] <;> rfl) (by simp only [go_sem] <;> rfl) ?_ (fun k hk hX => ?_)
  · exact fun j hj => absurd hj (by omega)
  · skip
    refine Exec.assocS ?_
    refine Exec.reg ?_
    iterate 5 (refine Run.o ?_)
    refine Run.nil ?_
    refine Exec.cndS (by simp only [go_sem] <;> rfl) (fun hb14 => ?_) (fun hb14 => ?_)
    · skip
      have hlt := lt_of_dec hb14
      obtain ⟨x, hx⟩ := elem_of hb14
      have hxd : p.seals.getD k 0 = x := getD_of hx
      refine Exec.skipS ?_
      refine Exec.blk ?_
      by_cases hrw : rowI s x = none
      · skip
        refine Exec.opk 10 ?_
        refine OpenK.o1 (by simp only [go_sem, hx, hrw, idxI] <;> rfl) ?_
        refine OpenK.o1 (by simp only [go_sem, hx, hrw, idxI] <;> rfl) ?_
        refine OpenK.o1 (by simp only [go_sem, hx, hrw, idxI] <;> rfl) ?_
        refine OpenK.o1 (by simp only [go_sem, hx, hrw, idxI] <;> rfl) ?_
        refine OpenK.o1 (by simp only [go_sem, hx, hrw, idxI]; (try simp (disch := omega) only [if_pos]); (try simp only [go_sem, hx, hrw, idxI])<;> rfl) ?_
        refine OpenK.o1 (by simp only [go_sem, hx, hrw, idxI] <;> rfl) ?_
        refine OpenK.cal (c_meterworksref07_Row s x (by omega)) (by simp only [go_sem]) (by simp only [go_sem, hx, hrw, idxI] <;> rfl) (by exact ⟨by first | exact WkR.pure rfl | exact WkR.nil _ | exact WkR.int (by first | omega | (simp; done) | (simp; omega)), by first | exact WkR.pure rfl | exact WkR.nil _ | exact WkR.int (by first | omega | (simp; done) | (simp; omega)), trivial⟩) (fr0) (by simp only [go_sem, hx, hrw, idxI] <;> rfl) (by simp only [go_sem] <;> rfl) (by simp only [go_sem] <;> rfl) ?_
        refine OpenK.o1 (by simp only [go_sem, hx, hrw, idxI] <;> rfl) ?_
        refine OpenK.nil (OpenE.fin (by decide +kernel) (by decide +kernel) ?_)
        refine Exec.assocS ?_
        refine Exec.reg ?_
        iterate 2 (refine Run.o1 (by simp only [go_sem, hx, hrw, idxI] <;> rfl) ?_)
        refine Run.nil ?_
        refine Exec.cndS (by simp only [go_sem, hx, hrw, idxI] <;> rfl) (fun hb25 => ?_) (fun hb25 => ?_)
        · skip
          have hse : sealErr s l p k = 4 := by unfold sealErr; rw [hxd, hrw]
          have hr0 : prfErr s l p = 4 := by unfold prfErr; rw [firstE_some hX (by rw [hse]; decide) hlt]; exact hse
          refine Exec.assocS ?_
          refine Exec.reg ?_
          refine Run.o1 (by simp only [go_sem, hx, hrw, idxI, hr0] <;> rfl) ?_
          refine Run.nil ?_
          refine Exec.retS ?_
          refine BlkK.ret ?_
          refine ForK.ret ?_
          refine BlkK.ret ?_
          exact Ends.fin [] (rs := [.tmp 6]) rfl (by simp only [go_sem, hx, hrw, idxI, hr0] <;> rfl) (by simp only [go_sem, hx, hrw, idxI, hr0] <;> first | rfl | ((repeat' (first | with_reducible_and_instances rfl | refine st_eq ?_ ?_ ?_ | refine ret_eq ?_ | refine tup_eq ?_ | refine tm_eq ?_ ?_ | refine arr_eq ?_ | refine cells_eq ?_ | refine val_eq ?_ | refine ls_eq ?_ ?_ | refine own_eq ?_ ?_ | refine sl_eq ?_ | refine b_eq ?_ | (refine i_eq ?_; omega))); done))
        · exact absurd hb25 (by simp)
      · skip
        obtain ⟨i, hi⟩ : ∃ i, rowI s x = some i := Option.ne_none_iff_exists'.1 hrw
        have hil := (rowI_lt hi).1
        have hr := rowOf_get hil
        have ht : l[i]? = some (endAt l i) := by rw [List.getElem?_eq_getElem (by omega)]; simp [endAt, List.getD, List.getElem?_eq_getElem (show i < l.length by omega)]
        refine Exec.opk 10 ?_
        refine OpenK.o1 (by simp only [go_sem, hx, hi, idxI, hr, ht] <;> rfl) ?_
        refine OpenK.o1 (by simp only [go_sem, hx, hi, idxI, hr, ht] <;> rfl) ?_
        refine OpenK.o1 (by simp only [go_sem, hx, hi, idxI, hr, ht] <;> rfl) ?_
        refine OpenK.o1 (by simp only [go_sem, hx, hi, idxI, hr, ht] <;> rfl) ?_
        refine OpenK.o1 (by simp only [go_sem, hx, hi, idxI, hr, ht]; (try simp (disch := omega) only [if_pos]); (try simp only [go_sem, hx, hi, idxI, hr, ht])<;> rfl) ?_
        refine OpenK.o1 (by simp only [go_sem, hx, hi, idxI, hr, ht] <;> rfl) ?_
        refine OpenK.cal (c_meterworksref07_Row s x (by omega)) (by simp only [go_sem]) (by simp only [go_sem, hx, hi, idxI, hr, ht] <;> rfl) (by exact ⟨by first | exact WkR.pure rfl | exact WkR.nil _ | exact WkR.int (by first | omega | (simp; done) | (simp; omega)), by first | exact WkR.pure rfl | exact WkR.nil _ | exact WkR.int (by first | omega | (simp; done) | (simp; omega)), trivial⟩) (fr0) (by simp only [go_sem, hx, hi, idxI, hr, ht] <;> rfl) (by simp only [go_sem] <;> rfl) (by simp only [go_sem] <;> rfl) ?_
        refine OpenK.o1 (by simp only [go_sem, hx, hi, idxI, hr, ht] <;> rfl) ?_
        refine OpenK.nil (OpenE.fin (by decide +kernel) (by decide +kernel) ?_)
        refine Exec.assocS ?_
        refine Exec.reg ?_
        iterate 2 (refine Run.o1 (by simp only [go_sem, hx, hi, idxI, hr, ht] <;> rfl) ?_)
        refine Run.nil ?_
        refine Exec.cndS (by simp only [go_sem, hx, hi, idxI, hr, ht] <;> rfl) (fun hb25 => ?_) (fun hb25 => ?_)
        · skip
          exact absurd (of_decide_eq_true hb25) (by omega)
        · skip
          refine Exec.skipS ?_
          refine Exec.assocS ?_
          refine Exec.opk 11 ?_
          refine OpenK.o1 (by simp only [go_sem, hx, hi, idxI, hr, ht] <;> rfl) ?_
          refine OpenK.o1 (by simp only [go_sem, hx, hi, idxI, hr, ht] <;> rfl) ?_
          refine OpenK.o1 (by simp only [go_sem, hx, hi, idxI, hr, ht] <;> rfl) ?_
          refine OpenK.o1 (by simp only [go_sem, hx, hi, idxI, hr, ht]; (try simp (disch := omega) only [if_pos]); (try simp only [go_sem, hx, hi, idxI, hr, ht])<;> rfl) ?_
          refine OpenK.o1 (by simp only [go_sem, hx, hi, idxI, hr, ht] <;> rfl) ?_
          refine OpenK.o1 (by simp only [go_sem, hx, hi, idxI, hr, ht] <;> rfl) ?_
          refine OpenK.o1 (by simp only [go_sem, hx, hi, idxI, hr, ht] <;> rfl) ?_
          refine OpenK.o1 (by simp only [go_sem, hx, hi, idxI, hr, ht] <;> rfl) ?_
          refine OpenK.o1 (by simp only [go_sem, hx, hi, idxI, hr, ht] <;> rfl) ?_
          refine OpenK.nil (OpenE.fin (by decide +kernel) (by decide +kernel) ?_)
          refine Exec.cndS (by simp only [go_sem, hx, hi, idxI, hr, ht] <;> rfl) (fun hb34 => ?_) (fun hb34 => ?_)
          · skip
            have hse : sealErr s l p k = 11 := by unfold sealErr; rw [hxd, hi]; exact if_pos (by simpa using hb34)
            have hr0 : prfErr s l p = 11 := by unfold prfErr; rw [firstE_some hX (by rw [hse]; decide) hlt]; exact hse
            refine Exec.assocS ?_
            refine Exec.reg ?_
            refine Run.o1 (by simp only [go_sem, hx, hi, idxI, hr, ht, hr0] <;> rfl) ?_
            refine Run.nil ?_
            refine Exec.retS ?_
            refine BlkK.ret ?_
            refine ForK.ret ?_
            refine BlkK.ret ?_
            exact Ends.fin [] (rs := [.tmp 6]) rfl (by simp only [go_sem, hx, hi, idxI, hr, ht, hr0] <;> rfl) (by simp only [go_sem, hx, hi, idxI, hr, ht, hr0] <;> first | rfl | ((repeat' (first | with_reducible_and_instances rfl | refine st_eq ?_ ?_ ?_ | refine ret_eq ?_ | refine tup_eq ?_ | refine tm_eq ?_ ?_ | refine arr_eq ?_ | refine cells_eq ?_ | refine val_eq ?_ | refine ls_eq ?_ ?_ | refine own_eq ?_ ?_ | refine sl_eq ?_ | refine b_eq ?_ | (refine i_eq ?_; omega))); done))
          · skip
            have hcl : ¬ (rowOf s i).cl ≠ p.cl := by simpa using hb34
            refine Exec.skipS ?_
            refine Exec.assocS ?_
            refine Exec.reg ?_
            refine Run.o1 (by simp only [go_sem, hx, hi, idxI, hr, ht] <;> rfl) ?_
            refine Run.nil ?_
            refine Exec.blk ?_
            refine Exec.forA [1, 3, 5, 7, 8, 9] [3, 5] (k) (fun j => [.slot 9 (.int j)]) (fun j => (p.seals.take j).any (fun y => x == y) = false) (fun j => by simp only [go_sem] <;> rfl) (by simp only [go_sem, hx, hi, idxI, hr, ht] <;> rfl) ?_ (fun j hj Xj => ?_)
            · rfl
            · skip
              refine Exec.assocS ?_
              refine Exec.reg ?_
              iterate 3 (refine Run.o1 (by simp only [go_sem, hx, hi, idxI, hr, ht] <;> rfl) ?_)
              refine Run.nil ?_
              refine Exec.cndS (by simp only [go_sem, hx, hi, idxI, hr, ht] <;> rfl) (fun hb37 => ?_) (fun hb37 => ?_)
              · skip
                have hjk : j < k := by have := of_decide_eq_true hb37; omega
                obtain ⟨y, hy⟩ : ∃ y, p.seals[j]? = some y := ⟨_, List.getElem?_eq_getElem (by omega)⟩
                refine Exec.skipS ?_
                refine Exec.blk ?_
                refine Exec.opk 13 ?_
                refine OpenK.o1 (by simp only [go_sem, hx, hi, idxI, hr, ht, hy] <;> rfl) ?_
                refine OpenK.o1 (by simp only [go_sem, hx, hi, idxI, hr, ht, hy] <;> rfl) ?_
                refine OpenK.o1 (by simp only [go_sem, hx, hi, idxI, hr, ht, hy] <;> rfl) ?_
                refine OpenK.o1 (by simp only [go_sem, hx, hi, idxI, hr, ht, hy]; (try simp (disch := omega) only [if_pos]); (try simp only [go_sem, hx, hi, idxI, hr, ht, hy])<;> rfl) ?_
                refine OpenK.o1 (by simp only [go_sem, hx, hi, idxI, hr, ht, hy] <;> rfl) ?_
                refine OpenK.o1 (by simp only [go_sem, hx, hi, idxI, hr, ht, hy] <;> rfl) ?_
                refine OpenK.o1 (by simp only [go_sem, hx, hi, idxI, hr, ht, hy] <;> rfl) ?_
                refine OpenK.o1 (by simp only [go_sem, hx, hi, idxI, hr, ht, hy] <;> rfl) ?_
                refine OpenK.o1 (by simp only [go_sem, hx, hi, idxI, hr, ht, hy]; (try simp (disch := omega) only [if_pos]); (try simp only [go_sem, hx, hi, idxI, hr, ht, hy])<;> rfl) ?_
                refine OpenK.o1 (by simp only [go_sem, hx, hi, idxI, hr, ht, hy] <;> rfl) ?_
                refine OpenK.o1 (by simp only [go_sem, hx, hi, idxI, hr, ht, hy] <;> rfl) ?_
                refine OpenK.nil (OpenE.fin (by decide +kernel) (by decide +kernel) ?_)
                refine Exec.cnd (by simp only [go_sem, hx, hi, idxI, hr, ht, hy] <;> rfl) (fun hb50 => ?_) (fun hb50 => ?_)
                · skip
                  have hct : (p.seals.take k).contains x = true := by
                    have : y = x := by simpa using hb50
                    subst this
                    rw [List.contains_iff_mem]
                    exact List.mem_of_getElem? (i := j) (by rw [List.getElem?_take, if_pos hjk]; exact hy)
                  have hse : sealErr s l p k = 5 := by unfold sealErr; rw [hxd, hi]; simp only []; rw [if_neg hcl, if_pos hct]
                  have hr0 : prfErr s l p = 5 := by unfold prfErr; rw [firstE_some hX (by rw [hse]; decide) hlt]; exact hse
                  refine Exec.reg ?_
                  refine Run.o1 (by simp only [go_sem, hx, hi, idxI, hr, ht, hy, hr0] <;> rfl) ?_
                  refine Run.nil ?_
                  refine BlkK.ret ?_
                  refine ForK.ret ?_
                  refine BlkK.ret ?_
                  refine BlkK.ret ?_
                  refine ForK.ret ?_
                  refine BlkK.ret ?_
                  exact Ends.fin [] (rs := [.tmp 6]) rfl (by simp only [go_sem, hx, hi, idxI, hr, ht, hy, hr0] <;> rfl) (by simp only [go_sem, hx, hi, idxI, hr, ht, hy, hr0] <;> first | rfl | ((repeat' (first | with_reducible_and_instances rfl | refine st_eq ?_ ?_ ?_ | refine ret_eq ?_ | refine tup_eq ?_ | refine tm_eq ?_ ?_ | refine arr_eq ?_ | refine cells_eq ?_ | refine val_eq ?_ | refine ls_eq ?_ ?_ | refine own_eq ?_ ?_ | refine sl_eq ?_ | refine b_eq ?_ | (refine i_eq ?_; omega))); done))
                · skip
                  refine BlkK.nrm ?_
                  refine Exec.reg1 ?_
                  refine Run.o1 (by simp only [go_sem, hx, hi, idxI, hr, ht, hy] <;> rfl) ?_
                  refine Run.o1 (by simp only [go_sem, hx, hi, idxI, hr, ht, hy]; (try simp (disch := omega) only [IntWalk.i64_in, IntWalk.u64_in, if_neg, if_pos])<;> rfl) ?_
                  refine Run.o1 (by simp only [go_sem, hx, hi, idxI, hr, ht, hy] <;> rfl) ?_
                  refine Run.nil ?_
                  refine ForK.nxt ?_ ?_ ?_
                  · omega
                  · exact Ghost.kp [1, 3, 5, 7, 8, 9] [3, 5] (by simp only [go_sem, hx, hi, idxI, hr, ht, hy]; first | ((repeat' (first | with_reducible_and_instances rfl | refine st_eq ?_ ?_ ?_ | refine ret_eq ?_ | refine tup_eq ?_ | refine tm_eq ?_ ?_ | refine arr_eq ?_ | refine cells_eq ?_ | refine val_eq ?_ | refine ls_eq ?_ ?_ | refine own_eq ?_ ?_ | refine sl_eq ?_ | refine b_eq ?_ | (refine i_eq ?_; omega))); done) | rfl)
                  · exact any_step Xj hy (by have := hb50; simp only [beq_eq_false_iff_ne] at this ⊢; exact fun e => this e.symm)
              · skip
                have hjk : k = j := by have := of_decide_eq_false hb37; omega
                subst hjk
                have hct : (p.seals.take k).contains x = false := by rw [List.contains_eq_any_beq]; exact Xj
                refine Exec.exitS ?_
                refine ForK.ext ?_
                refine BlkK.hit ?_
                refine Exec.opk 20 ?_
                refine OpenK.o1 (by simp only [go_sem, hx, hi, idxI, hr, ht] <;> rfl) ?_
                refine OpenK.o1 (by simp only [go_sem, hx, hi, idxI, hr, ht] <;> rfl) ?_
                refine OpenK.o1 (by simp only [go_sem, hx, hi, idxI, hr, ht] <;> rfl) ?_
                refine OpenK.o1 (by simp only [go_sem, hx, hi, idxI, hr, ht] <;> rfl) ?_
                refine OpenK.o1 (by simp only [go_sem, hx, hi, idxI, hr, ht] <;> rfl) ?_
                refine OpenK.cal (c_meterworksref07_force s l i p.day (rowOf s i) (endAt l i) hr ht) (by simp only [go_sem]) (by simp only [go_sem, hx, hi, idxI, hr, ht] <;> rfl) (by exact ⟨by first | exact WkR.pure rfl | exact WkR.nil _ | exact WkR.int (by first | omega | (simp; done) | (simp; omega)), by first | exact WkR.pure rfl | exact WkR.nil _ | exact WkR.int (by first | omega | (simp; done) | (simp; omega)), by first | exact WkR.pure rfl | exact WkR.nil _ | exact WkR.int (by first | omega | (simp; done) | (simp; omega)), by first | exact WkR.pure rfl | exact WkR.nil _ | exact WkR.int (by first | omega | (simp; done) | (simp; omega)), trivial⟩) (fr0) (by simp only [go_sem, hx, hi, idxI, hr, ht] <;> rfl) (by simp only [go_sem] <;> rfl) (by simp only [go_sem] <;> rfl) ?_
                refine OpenK.o1 (by simp only [go_sem, hx, hi, idxI, hr, ht] <;> rfl) ?_
                refine OpenK.o1 (by simp only [go_sem, hx, hi, idxI, hr, ht] <;> rfl) ?_
                refine OpenK.gop (by simp only [go_sem] <;> rfl) (by simp only [go_sem, hx, hi, idxI, hr, ht] <;> rfl) (by simp only [go_sem] <;> rfl) ?_
                refine OpenK.gop (by simp only [go_sem] <;> rfl) (by simp only [go_sem, hx, hi, idxI, hr, ht] <;> rfl) (by simp only [go_sem] <;> rfl) ?_
                refine OpenK.gop (by simp only [go_sem] <;> rfl) (by simp only [go_sem, hx, hi, idxI, hr, ht] <;> rfl) (by simp only [go_sem] <;> rfl) ?_
                refine OpenK.gop (by simp only [go_sem] <;> rfl) (by simp only [go_sem, hx, hi, idxI, hr, ht] <;> rfl) (by simp only [go_sem] <;> rfl) ?_
                refine OpenK.gop (by simp only [go_sem] <;> rfl) (by simp only [go_sem, hx, hi, idxI, hr, ht]; (try simp (disch := omega) only [if_pos]); (try simp only [go_sem, hx, hi, idxI, hr, ht])<;> rfl) (by simp only [go_sem] <;> rfl) ?_
                refine OpenK.gop (by simp only [go_sem] <;> rfl) (by simp only [go_sem, hx, hi, idxI, hr, ht] <;> rfl) (by simp only [go_sem] <;> rfl) ?_
                refine OpenK.gop (by simp only [go_sem] <;> rfl) (by simp only [go_sem, hx, hi, idxI, hr, ht] <;> rfl) (by simp only [go_sem] <;> rfl) ?_
                refine OpenK.gop (by simp only [go_sem] <;> rfl) (by simp only [go_sem, hx, hi, idxI, hr, ht] <;> rfl) (by simp only [go_sem] <;> rfl) ?_
                refine OpenK.gcal (by simp only [go_sem] <;> rfl) (c_meterworksref07_IsBroken s x p.day (by omega)) (by simp only [go_sem]) (by simp only [go_sem, hx, hi, idxI, hr, ht] <;> rfl) (by exact ⟨by first | exact WkR.pure rfl | exact WkR.nil _ | exact WkR.int (by first | omega | (simp; done) | (simp; omega)), by first | exact WkR.pure rfl | exact WkR.nil _ | exact WkR.int (by first | omega | (simp; done) | (simp; omega)), by first | exact WkR.pure rfl | exact WkR.nil _ | exact WkR.int (by first | omega | (simp; done) | (simp; omega)), trivial⟩) (by simp only [go_sem, hx, hi, idxI, hr, ht] <;> rfl) (by simp only [go_sem] <;> rfl) ?_
                refine OpenK.o1 (by simp only [go_sem, hx, hi, idxI, hr, ht] <;> rfl) ?_
                refine OpenK.nil (OpenE.finT (by kernel_rfl) (by kernel_rfl) (by kernel_rfl) ?_)
                refine Exec.cnd (by simp only [go_sem, hx, hi, idxI, hr, ht] <;> rfl) (fun hb68 => ?_) (fun hb68 => ?_)
                · skip
                  have hse : sealErr s l p k = 6 := by unfold sealErr; rw [hxd, hi]; simp only []; rw [if_neg hcl, if_neg (by rw [hct]; decide), if_pos (by simpa using hb68)]
                  have hr0 : prfErr s l p = 6 := by unfold prfErr; rw [firstE_some hX (by rw [hse]; decide) hlt]; exact hse
                  refine Exec.reg ?_
                  refine Run.o1 (by simp only [go_sem, hx, hi, idxI, hr, ht, hr0] <;> rfl) ?_
                  refine Run.nil ?_
                  refine BlkK.ret ?_
                  refine ForK.ret ?_
                  refine BlkK.ret ?_
                  exact Ends.fin [] (rs := [.tmp 6]) rfl (by simp only [go_sem, hx, hi, idxI, hr, ht, hr0] <;> rfl) (by simp only [go_sem, hx, hi, idxI, hr, ht, hr0] <;> first | rfl | ((repeat' (first | with_reducible_and_instances rfl | refine st_eq ?_ ?_ ?_ | refine ret_eq ?_ | refine tup_eq ?_ | refine tm_eq ?_ ?_ | refine arr_eq ?_ | refine cells_eq ?_ | refine val_eq ?_ | refine ls_eq ?_ ?_ | refine own_eq ?_ ?_ | refine sl_eq ?_ | refine b_eq ?_ | (refine i_eq ?_; omega))); done))
                · skip
                  have hse : sealErr s l p k = 0 := by unfold sealErr; rw [hxd, hi]; simp only []; rw [if_neg hcl, if_neg (by rw [hct]; decide), if_neg (by have := hb68; simp only [Bool.or_eq_false_iff, Bool.not_eq_false'] at this; rintro (h | h); rw [h] at this; exact absurd this.1 (by decide); rw [h] at this; exact absurd this.2 (by decide))]
                  refine BlkK.nrm ?_
                  refine Exec.reg1 ?_
                  refine Run.o1 (by simp only [go_sem, hx, hi, idxI, hr, ht] <;> rfl) ?_
                  refine Run.o1 (by simp only [go_sem, hx, hi, idxI, hr, ht]; (try simp (disch := omega) only [IntWalk.i64_in, IntWalk.u64_in, if_neg, if_pos])<;> rfl) ?_
                  refine Run.o1 (by simp only [go_sem, hx, hi, idxI, hr, ht] <;> rfl) ?_
                  refine Run.nil ?_
                  refine ForK.nxt ?_ ?_ ?_
                  · omega
                  · exact Ghost.kp [1, 3, 5, 7] [3, 5] (by simp only [go_sem, hx, hi, idxI, hr, ht]; first | ((repeat' (first | with_reducible_and_instances rfl | refine st_eq ?_ ?_ ?_ | refine ret_eq ?_ | refine tup_eq ?_ | refine tm_eq ?_ ?_ | refine arr_eq ?_ | refine cells_eq ?_ | refine val_eq ?_ | refine ls_eq ?_ ?_ | refine own_eq ?_ ?_ | refine sl_eq ?_ | refine b_eq ?_ | (refine i_eq ?_; omega))); done) | rfl)
                  · exact fun j hj => if e : j = k then e ▸ hse else hX j (by omega)
    · skip
      have hr0 : prfErr s l p = 0 := by unfold prfErr; rw [firstE_none.2 fun j hj => hX j (by have := ge_of_dec hb14; omega)]; rfl
      refine Exec.exitS ?_
      refine ForK.ext ?_
      refine BlkK.hit ?_
      refine Exec.reg ?_
      refine Run.o1 (by simp only [go_sem, hr0] <;> rfl) ?_
      refine Run.nil ?_
      exact Ends.fin [] (rs := [.tmp 6]) rfl (by simp only [go_sem, hr0] <;> rfl) (by simp only [go_sem, hr0] <;> first | rfl | ((repeat' (first | with_reducible_and_instances rfl | refine st_eq ?_ ?_ ?_ | refine ret_eq ?_ | refine tup_eq ?_ | refine tm_eq ?_ ?_ | refine arr_eq ?_ | refine cells_eq ?_ | refine val_eq ?_ | refine ls_eq ?_ ?_ | refine own_eq ?_ ?_ | refine sl_eq ?_ | refine b_eq ?_ | (refine i_eq ?_; omega))); done))

end Go.Mw
namespace Go.Mw
open Go.Proofs
open Go.Te
abbrev termsV (t : List (Int × Int) × Int × Int) : AV := .tup [(false, [.d (tmsD t.1)]), (false, [.d (.i t.2.1)]), (false, [.d (.i t.2.2)])]
theorem terms_bad {s : Stk} (h : stockB s = false) : termsR s = ([], 0, 1) := by unfold termsR; rw [if_pos h]
theorem terms_row {s : Stk} {i : Nat} (h : stockB s = true) (h1 : firstE (rowErr s) s.rs.length = some i) : termsR s = ([], (i : Int), 5) := by
  unfold termsR; rw [if_neg (by rw [h]; decide), h1]
theorem terms_brk {s : Stk} {i : Nat} (h : stockB s = true) (h1 : firstE (rowErr s) s.rs.length = none) (h2 : firstE (brErr s) s.bs.length = some i) : termsR s = ([], (i : Int), brErr s i) := by
  unfold termsR; rw [if_neg (by rw [h]; decide), h1]; simp only []; rw [h2]
theorem terms_prf {s : Stk} {i : Nat} (h : stockB s = true) (h1 : firstE (rowErr s) s.rs.length = none) (h2 : firstE (brErr s) s.bs.length = none) (h3 : firstE (prErr s) s.ps.length = some i) : termsR s = ([], (((ordI s).getD i 0 : Nat) : Int), prErr s i) := by
  unfold termsR; rw [if_neg (by rw [h]; decide), h1]; simp only []; rw [h2]; simp only []; rw [h3]
theorem terms_ok {s : Stk} (h : stockB s = true) (h1 : firstE (rowErr s) s.rs.length = none) (h2 : firstE (brErr s) s.bs.length = none) (h3 : firstE (prErr s) s.ps.length = none) : termsR s = (stAt s s.ps.length, 0, 0) := by
  unfold termsR; rw [if_neg (by rw [h]; decide), h1]; simp only []; rw [h2]; simp only []; rw [h3]
set_option maxRecDepth 60000 in
set_option maxHeartbeats 16000000 in
/-- meterworks/meterworksref07.Terms -/
theorem c_meterworksref07_Terms (s : Stk) (h : Small s) : Contract Try.prog 28 [stkV s] (termsV (termsR s)) [] := by
  have hrs0 := h.rs
  have hbs0 := h.bs
  have hps0 := h.ps
  refine con_of follows_mixed Try.func28 rfl (by simp only [List.length_cons, List.length_nil, Try.ntmps28]; omega) (by kernel_rfl) rfl ?_
  refine Exec.reg ?_
  iterate 4 (refine Run.o ?_)
  refine Run.nil ?_
  refine Exec.assocS ?_
  refine Exec.reg ?_
  refine Run.o ?_
  refine Run.c1 (c_meterworksref07_Stock s h) (by simp only [go_sem] <;> rfl) (by simp only [go_sem] <;> rfl) ?_
  refine Run.o ?_
  refine Run.nil ?_
  refine Exec.cndS (by simp only [go_sem] <;> rfl) (fun hb17 => ?_) (fun hb17 => ?_)
  · skip
    have hsb : stockB s = false := by simpa using hb17
    have hr0 := terms_bad hsb
    refine Exec.assocS ?_
    refine Exec.reg ?_
    iterate 3 (refine Run.o ?_)
    refine Run.nild 2 2 (by simp only [go_sem] <;> rfl) (by simp only [go_sem] <;> rfl) ?_
    refine Run.nil ?_
    refine Exec.retS ?_
    exact Ends.fin [] (rs := [.tmp 2, .tmp 3, .tmp 4]) rfl (by simp only [go_sem, hr0] <;> rfl) (by simp only [go_sem, hr0] <;> first | rfl | ((repeat' (first | with_reducible_and_instances rfl | refine st_eq ?_ ?_ ?_ | refine ret_eq ?_ | refine tup_eq ?_ | refine tm_eq ?_ ?_ | refine arr_eq ?_ | refine cells_eq ?_ | refine val_eq ?_ | refine ls_eq ?_ ?_ | refine own_eq ?_ ?_ | refine sl_eq ?_ | refine b_eq ?_ | (refine i_eq ?_; omega))); done))
  have hsb : stockB s = true := by simpa using hb17
  have v := stock_val hsb
  have hb0 : begins s = stAt s 0 := rfl
  refine Exec.skipS ?_
  refine Exec.assocS ?_
  refine Exec.reg ?_
  refine Run.o ?_
  refine Run.nil ?_
  refine Exec.blk ?_
  refine Exec.forA [1, 5] [1] (s.rs.length) (fun k => [.slot 5 (.int k)]) (fun k => ∀ j, j < k → rowErr s j = 0) (fun k => by simp only [go_sem] <;> rfl) (by simp only [go_sem] <;> rfl) ?_ (fun k hk hX => ?_)
  · exact fun j hj => absurd hj (by omega)
  refine Exec.assocS ?_
  refine Exec.reg ?_
  iterate 5 (refine Run.o ?_)
  refine Run.nil ?_
  refine Exec.cndS (by simp only [go_sem] <;> rfl) (fun hb22 => ?_) (fun hb22 => ?_)
  · skip
    have hlt := lt_of_dec hb22
    have hrk := rowOf_get hlt
    refine Exec.skipS ?_
    refine Exec.blk ?_
    refine Exec.reg ?_
    refine Run.o ?_
    refine Run.nil ?_
    refine Exec.blk1 ?_
    refine Exec.forA [1, 5, 6] [1] (k) (fun j => [.slot 6 (.int j)]) (fun j => (s.rs.take j).any (fun o => overl o (rowOf s k)) = false) (fun j => by simp only [go_sem] <;> rfl) (by simp only [go_sem, hrk] <;> rfl) ?_ (fun j hj Xj => ?_)
    · rfl
    refine Exec.assocS ?_
    refine Exec.reg ?_
    iterate 2 (refine Run.o ?_)
    refine Run.o1 (by simp only [go_sem, hrk] <;> rfl) ?_
    refine Run.nil ?_
    refine Exec.cndS (by simp only [go_sem, hrk] <;> rfl) (fun hb27 => ?_) (fun hb27 => ?_)
    · skip
      have hjk : j < k := by have := of_decide_eq_true hb27; omega
      have hro := rowOf_get (s := s) (i := j) (by omega)
      refine Exec.skipS ?_
      refine Exec.blk ?_
      refine Exec.opk 30 ?_
      refine OpenK.o ?_
      refine OpenK.o1 (by simp only [go_sem, hrk, hro] <;> rfl) ?_
      refine OpenK.o ?_
      refine OpenK.o1 (by simp only [go_sem, hrk, hro]; (try simp (disch := omega) only [if_pos]); (try simp only [go_sem, hrk, hro])<;> rfl) ?_
      refine OpenK.o ?_
      refine OpenK.o1 (by simp only [go_sem, hrk, hro] <;> rfl) ?_
      refine OpenK.o ?_
      refine OpenK.o1 (by simp only [go_sem, hrk, hro] <;> rfl) ?_
      refine OpenK.o ?_
      refine OpenK.o1 (by simp only [go_sem, hrk, hro]; (try simp (disch := omega) only [if_pos]); (try simp only [go_sem, hrk, hro])<;> rfl) ?_
      refine OpenK.o ?_
      iterate 3 (refine OpenK.o1 (by simp only [go_sem, hrk, hro] <;> rfl) ?_)
      refine OpenK.gop (by simp only [go_sem] <;> rfl) (by simp only [go_sem] <;> rfl) (by simp only [go_sem] <;> rfl) ?_
      refine OpenK.gop (by simp only [go_sem] <;> rfl) (by simp only [go_sem, hrk, hro] <;> rfl) (by simp only [go_sem] <;> rfl) ?_
      refine OpenK.gop (by simp only [go_sem] <;> rfl) (by simp only [go_sem] <;> rfl) (by simp only [go_sem] <;> rfl) ?_
      refine OpenK.gop (by simp only [go_sem] <;> rfl) (by simp only [go_sem, hrk, hro]; (try simp (disch := omega) only [if_pos]); (try simp only [go_sem, hrk, hro])<;> rfl) (by simp only [go_sem] <;> rfl) ?_
      refine OpenK.gop (by simp only [go_sem] <;> rfl) (by simp only [go_sem] <;> rfl) (by simp only [go_sem] <;> rfl) ?_
      refine OpenK.gop (by simp only [go_sem] <;> rfl) (by simp only [go_sem, hrk, hro] <;> rfl) (by simp only [go_sem] <;> rfl) ?_
      refine OpenK.gop (by simp only [go_sem] <;> rfl) (by simp only [go_sem] <;> rfl) (by simp only [go_sem] <;> rfl) ?_
      refine OpenK.gop (by simp only [go_sem] <;> rfl) (by simp only [go_sem, hrk, hro] <;> rfl) (by simp only [go_sem] <;> rfl) ?_
      refine OpenK.gop (by simp only [go_sem] <;> rfl) (by simp only [go_sem] <;> rfl) (by simp only [go_sem] <;> rfl) ?_
      refine OpenK.gop (by simp only [go_sem] <;> rfl) (by simp only [go_sem, hrk, hro]; (try simp (disch := omega) only [if_pos]); (try simp only [go_sem, hrk, hro])<;> rfl) (by simp only [go_sem] <;> rfl) ?_
      refine OpenK.gop (by simp only [go_sem] <;> rfl) (by simp only [go_sem] <;> rfl) (by simp only [go_sem] <;> rfl) ?_
      iterate 2 (refine OpenK.gop (by simp only [go_sem] <;> rfl) (by simp only [go_sem, hrk, hro] <;> rfl) (by simp only [go_sem] <;> rfl) ?_)
      refine OpenK.o1 (by simp only [go_sem, hrk, hro] <;> rfl) ?_
      refine OpenK.nil (OpenE.finT (by kernel_rfl) (by kernel_rfl) (by kernel_rfl) ?_)
      refine Exec.cnd (by simp only [go_sem, hrk, hro] <;> rfl) (fun hb57 => ?_) (fun hb57 => ?_)
      · skip
        have hov : overl (rowOf s j) (rowOf s k) = true := by have := hb57; rw [Bool.and_comm] at this; exact this
        have hse : rowErr s k = 5 := by
          unfold rowErr
          rw [if_pos]
          exact List.any_eq_true.2 ⟨rowOf s j, List.mem_of_getElem? (i := j) (by rw [List.getElem?_take, if_pos hjk]; exact hro), hov⟩
        have hr0 := terms_row hsb (firstE_some hX (by rw [hse]; decide) hlt)
        refine Exec.reg ?_
        iterate 4 (refine Run.o ?_)
        refine Run.nild 2 2 (by simp only [go_sem] <;> rfl) (by simp only [go_sem] <;> rfl) ?_
        refine Run.nil ?_
        refine BlkK.ret ?_
        refine ForK.ret ?_
        refine Blk1K.ret ?_
        refine BlkK.ret ?_
        refine ForK.ret ?_
        refine BlkK.ret ?_
        exact Ends.fin [] (rs := [.tmp 2, .tmp 3, .tmp 4]) rfl (by simp only [go_sem, hrk, hro, hr0] <;> rfl) (by simp only [go_sem, hrk, hro, hr0] <;> first | rfl | ((repeat' (first | with_reducible_and_instances rfl | refine st_eq ?_ ?_ ?_ | refine ret_eq ?_ | refine tup_eq ?_ | refine tm_eq ?_ ?_ | refine arr_eq ?_ | refine cells_eq ?_ | refine val_eq ?_ | refine ls_eq ?_ ?_ | refine own_eq ?_ ?_ | refine sl_eq ?_ | refine b_eq ?_ | (refine i_eq ?_; omega))); done))
      refine BlkK.nrm ?_
      refine Exec.reg1 ?_
      refine Run.o ?_
      refine Run.o1 (by simp only [go_sem, hrk, hro]; (try simp (disch := omega) only [IntWalk.i64_in, IntWalk.u64_in, if_neg, if_pos])<;> rfl) ?_
      refine Run.o ?_
      refine Run.nil ?_
      refine ForK.nxt ?_ ?_ ?_
      · omega
      · exact Ghost.kp [1, 5, 6] [1] (by simp only [go_sem, hrk, hro]; first | ((repeat' (first | with_reducible_and_instances rfl | refine st_eq ?_ ?_ ?_ | refine ret_eq ?_ | refine tup_eq ?_ | refine tm_eq ?_ ?_ | refine arr_eq ?_ | refine cells_eq ?_ | refine val_eq ?_ | refine ls_eq ?_ ?_ | refine own_eq ?_ ?_ | refine sl_eq ?_ | refine b_eq ?_ | (refine i_eq ?_; omega))); done) | rfl)
      · exact any_step Xj hro (by have := hb57; rw [Bool.and_comm] at this; exact this)
    have hjk : k = j := by have := of_decide_eq_false hb27; omega
    subst hjk
    have hse : rowErr s k = 0 := by unfold rowErr; rw [if_neg (by rw [Xj]; decide)]
    refine Exec.exitS ?_
    refine ForK.ext ?_
    refine Blk1K.hit ?_
    refine BlkK.nrm ?_
    refine Exec.reg1 ?_
    refine Run.o ?_
    refine Run.o1 (by simp only [go_sem, hrk]; (try simp (disch := omega) only [IntWalk.i64_in, IntWalk.u64_in, if_neg, if_pos])<;> rfl) ?_
    refine Run.o ?_
    refine Run.nil ?_
    refine ForK.nxt ?_ ?_ ?_
    · omega
    · exact Ghost.kp [1, 5] [1] (by simp only [go_sem, hrk]; first | ((repeat' (first | with_reducible_and_instances rfl | refine st_eq ?_ ?_ ?_ | refine ret_eq ?_ | refine tup_eq ?_ | refine tm_eq ?_ ?_ | refine arr_eq ?_ | refine cells_eq ?_ | refine val_eq ?_ | refine ls_eq ?_ ?_ | refine own_eq ?_ ?_ | refine sl_eq ?_ | refine b_eq ?_ | (refine i_eq ?_; omega))); done) | rfl)
    · exact fun j hj => if e : j = k then e ▸ hse else hX j (by omega)
  have hf1 : firstE (rowErr s) s.rs.length = none := firstE_none.2 fun j hj => hX j (by have := ge_of_dec hb22; omega)
  refine Exec.exitS ?_
  refine ForK.ext ?_
  refine BlkK.hit ?_
  refine Exec.assocS ?_
  refine Exec.reg ?_
  refine Run.o ?_
  refine Run.nil ?_
  refine Exec.blk ?_
  refine Exec.forA [1, 7] [1] (s.bs.length) (fun k => [.slot 7 (.int k)]) (fun k => ∀ j, j < k → brErr s j = 0) (fun k => by simp only [go_sem] <;> rfl) (by simp only [go_sem] <;> rfl) ?_ (fun k hk hX => ?_)
  · exact fun j hj => absurd hj (by omega)
  refine Exec.assocS ?_
  refine Exec.reg ?_
  iterate 5 (refine Run.o ?_)
  refine Run.nil ?_
  refine Exec.cndS (by simp only [go_sem] <;> rfl) (fun hb63 => ?_) (fun hb63 => ?_)
  · skip
    have hlt := lt_of_dec hb63
    have hbk := brOf_get hlt
    refine Exec.skipS ?_
    refine Exec.blk ?_
    by_cases hrw : rowI s (brOf s k).no = none
    · skip
      refine Exec.opk 11 ?_
      refine OpenK.o1 (by simp only [go_sem, hbk, Int.toNat_zero, Nat.zero_mul, Int.toNat_one, Nat.one_mul, hrw, idxI] <;> rfl) ?_
      refine OpenK.o ?_
      refine OpenK.o1 (by simp only [go_sem, hbk, Int.toNat_zero, Nat.zero_mul, Int.toNat_one, Nat.one_mul, hrw, idxI] <;> rfl) ?_
      refine OpenK.o ?_
      iterate 2 (refine OpenK.o1 (by simp only [go_sem, hbk, Int.toNat_zero, Nat.zero_mul, Int.toNat_one, Nat.one_mul, hrw, idxI]; (try simp (disch := omega) only [if_pos]); (try simp only [go_sem, hbk, Int.toNat_zero, Nat.zero_mul, Int.toNat_one, Nat.one_mul, hrw, idxI])<;> rfl) ?_)
      refine OpenK.o1 (by simp only [go_sem, hbk, Int.toNat_zero, Nat.zero_mul, Int.toNat_one, Nat.one_mul, hrw, idxI] <;> rfl) ?_
      refine OpenK.cal (c_meterworksref07_Row s (brOf s k).no (by omega)) (by simp only [go_sem]) (by simp only [go_sem, hbk, Int.toNat_zero, Nat.zero_mul, Int.toNat_one, Nat.one_mul, hrw, idxI] <;> rfl) (by exact ⟨by first | exact WkR.pure rfl | exact WkR.nil _ | exact WkR.int (by first | omega | (simp; done) | (simp; omega)), by first | exact WkR.pure rfl | exact WkR.nil _ | exact WkR.int (by first | omega | (simp; done) | (simp; omega)), trivial⟩) (fr0) (by simp only [go_sem, hbk, Int.toNat_zero, Nat.zero_mul, Int.toNat_one, Nat.one_mul, hrw, idxI] <;> rfl) (by simp only [go_sem] <;> rfl) (by simp only [go_sem] <;> rfl) ?_
      refine OpenK.o ?_
      refine OpenK.nil (OpenE.fin (by decide +kernel) (by decide +kernel) ?_)
      refine Exec.assocS ?_
      refine Exec.reg ?_
      refine Run.o ?_
      refine Run.o1 (by simp only [go_sem, hbk, Int.toNat_zero, Nat.zero_mul, Int.toNat_one, Nat.one_mul, hrw, idxI] <;> rfl) ?_
      refine Run.nil ?_
      refine Exec.cndS (by simp only [go_sem, hbk, Int.toNat_zero, Nat.zero_mul, Int.toNat_one, Nat.one_mul, hrw, idxI] <;> rfl) (fun hb75 => ?_) (fun hb75 => ?_)
      · skip
        have hse : brErr s k = 4 := by unfold brErr; rw [hrw]
        have hr0 := terms_brk hsb hf1 (firstE_some hX (by rw [hse]; decide) hlt)
        rw [hse] at hr0
        refine Exec.assocS ?_
        refine Exec.reg ?_
        iterate 4 (refine Run.o ?_)
        refine Run.nild 2 2 (by simp only [go_sem] <;> rfl) (by simp only [go_sem] <;> rfl) ?_
        refine Run.nil ?_
        refine Exec.retS ?_
        refine BlkK.ret ?_
        refine ForK.ret ?_
        refine BlkK.ret ?_
        exact Ends.fin [] (rs := [.tmp 2, .tmp 3, .tmp 4]) rfl (by simp only [go_sem, hbk, Int.toNat_zero, Nat.zero_mul, Int.toNat_one, Nat.one_mul, hrw, idxI, hr0] <;> rfl) (by simp only [go_sem, hbk, Int.toNat_zero, Nat.zero_mul, Int.toNat_one, Nat.one_mul, hrw, idxI, hr0] <;> first | rfl | ((repeat' (first | with_reducible_and_instances rfl | refine st_eq ?_ ?_ ?_ | refine ret_eq ?_ | refine tup_eq ?_ | refine tm_eq ?_ ?_ | refine arr_eq ?_ | refine cells_eq ?_ | refine val_eq ?_ | refine ls_eq ?_ ?_ | refine own_eq ?_ ?_ | refine sl_eq ?_ | refine b_eq ?_ | (refine i_eq ?_; omega))); done))
      · exact absurd hb75 (by simp)
    obtain ⟨i, hi⟩ : ∃ i, rowI s (brOf s k).no = some i := Option.ne_none_iff_exists'.1 hrw
    have hil := (rowI_lt hi).1
    have hr := rowOf_get hil
    refine Exec.opk 11 ?_
    refine OpenK.o1 (by simp only [go_sem, hbk, Int.toNat_zero, Nat.zero_mul, Int.toNat_one, Nat.one_mul, hi, idxI, hr] <;> rfl) ?_
    refine OpenK.o ?_
    refine OpenK.o1 (by simp only [go_sem, hbk, Int.toNat_zero, Nat.zero_mul, Int.toNat_one, Nat.one_mul, hi, idxI, hr] <;> rfl) ?_
    refine OpenK.o ?_
    iterate 2 (refine OpenK.o1 (by simp only [go_sem, hbk, Int.toNat_zero, Nat.zero_mul, Int.toNat_one, Nat.one_mul, hi, idxI, hr]; (try simp (disch := omega) only [if_pos]); (try simp only [go_sem, hbk, Int.toNat_zero, Nat.zero_mul, Int.toNat_one, Nat.one_mul, hi, idxI, hr])<;> rfl) ?_)
    refine OpenK.o1 (by simp only [go_sem, hbk, Int.toNat_zero, Nat.zero_mul, Int.toNat_one, Nat.one_mul, hi, idxI, hr] <;> rfl) ?_
    refine OpenK.cal (c_meterworksref07_Row s (brOf s k).no (by omega)) (by simp only [go_sem]) (by simp only [go_sem, hbk, Int.toNat_zero, Nat.zero_mul, Int.toNat_one, Nat.one_mul, hi, idxI, hr] <;> rfl) (by exact ⟨by first | exact WkR.pure rfl | exact WkR.nil _ | exact WkR.int (by first | omega | (simp; done) | (simp; omega)), by first | exact WkR.pure rfl | exact WkR.nil _ | exact WkR.int (by first | omega | (simp; done) | (simp; omega)), trivial⟩) (fr0) (by simp only [go_sem, hbk, Int.toNat_zero, Nat.zero_mul, Int.toNat_one, Nat.one_mul, hi, idxI, hr] <;> rfl) (by simp only [go_sem] <;> rfl) (by simp only [go_sem] <;> rfl) ?_
    refine OpenK.o ?_
    refine OpenK.nil (OpenE.fin (by decide +kernel) (by decide +kernel) ?_)
    refine Exec.assocS ?_
    refine Exec.reg ?_
    refine Run.o ?_
    refine Run.o1 (by simp only [go_sem, hbk, Int.toNat_zero, Nat.zero_mul, Int.toNat_one, Nat.one_mul, hi, idxI, hr] <;> rfl) ?_
    refine Run.nil ?_
    refine Exec.cndS (by simp only [go_sem, hbk, Int.toNat_zero, Nat.zero_mul, Int.toNat_one, Nat.one_mul, hi, idxI, hr] <;> rfl) (fun hb75 => ?_) (fun hb75 => ?_)
    · skip
      exact absurd (of_decide_eq_true hb75) (by omega)
    refine Exec.skipS ?_
    refine Exec.assocS ?_
    refine Exec.reg ?_
    refine Run.o ?_
    refine Run.nil ?_
    refine Exec.blk ?_
    refine Exec.forA [1, 7, 8, 9] [1] (k) (fun j => [.slot 9 (.int j)]) (fun j => (s.bs.take j).any (fun b => b.no == (brOf s k).no) = false) (fun j => by simp only [go_sem] <;> rfl) (by simp only [go_sem, hbk, Int.toNat_zero, Nat.zero_mul, Int.toNat_one, Nat.one_mul, hi, idxI, hr] <;> rfl) ?_ (fun j hj Xj => ?_)
    · rfl
    refine Exec.assocS ?_
    refine Exec.reg ?_
    iterate 2 (refine Run.o ?_)
    refine Run.o1 (by simp only [go_sem, hbk, Int.toNat_zero, Nat.zero_mul, Int.toNat_one, Nat.one_mul, hi, idxI, hr] <;> rfl) ?_
    refine Run.nil ?_
    refine Exec.cndS (by simp only [go_sem, hbk, Int.toNat_zero, Nat.zero_mul, Int.toNat_one, Nat.one_mul, hi, idxI, hr] <;> rfl) (fun hb79 => ?_) (fun hb79 => ?_)
    · skip
      have hjk : j < k := by have := of_decide_eq_true hb79; omega
      have hbo := brOf_get (s := s) (i := j) (by omega)
      refine Exec.skipS ?_
      refine Exec.blk ?_
      refine Exec.opk 15 ?_
      refine OpenK.o ?_
      refine OpenK.o1 (by simp only [go_sem, hbk, Int.toNat_zero, Nat.zero_mul, Int.toNat_one, Nat.one_mul, hi, idxI, hr, hbo] <;> rfl) ?_
      refine OpenK.o ?_
      iterate 2 (refine OpenK.o1 (by simp only [go_sem, hbk, Int.toNat_zero, Nat.zero_mul, Int.toNat_one, Nat.one_mul, hi, idxI, hr, hbo]; (try simp (disch := omega) only [if_pos]); (try simp only [go_sem, hbk, Int.toNat_zero, Nat.zero_mul, Int.toNat_one, Nat.one_mul, hi, idxI, hr, hbo])<;> rfl) ?_)
      refine OpenK.o1 (by simp only [go_sem, hbk, Int.toNat_zero, Nat.zero_mul, Int.toNat_one, Nat.one_mul, hi, idxI, hr, hbo] <;> rfl) ?_
      refine OpenK.o ?_
      refine OpenK.o1 (by simp only [go_sem, hbk, Int.toNat_zero, Nat.zero_mul, Int.toNat_one, Nat.one_mul, hi, idxI, hr, hbo] <;> rfl) ?_
      refine OpenK.o ?_
      iterate 2 (refine OpenK.o1 (by simp only [go_sem, hbk, Int.toNat_zero, Nat.zero_mul, Int.toNat_one, Nat.one_mul, hi, idxI, hr, hbo]; (try simp (disch := omega) only [if_pos]); (try simp only [go_sem, hbk, Int.toNat_zero, Nat.zero_mul, Int.toNat_one, Nat.one_mul, hi, idxI, hr, hbo])<;> rfl) ?_)
      iterate 2 (refine OpenK.o1 (by simp only [go_sem, hbk, Int.toNat_zero, Nat.zero_mul, Int.toNat_one, Nat.one_mul, hi, idxI, hr, hbo] <;> rfl) ?_)
      refine OpenK.nil (OpenE.fin (by decide +kernel) (by decide +kernel) ?_)
      refine Exec.cnd (by simp only [go_sem, hbk, Int.toNat_zero, Nat.zero_mul, Int.toNat_one, Nat.one_mul, hi, idxI, hr, hbo] <;> rfl) (fun hb94 => ?_) (fun hb94 => ?_)
      · skip
        have hse : brErr s k = 5 := by
          unfold brErr
          rw [hi]
          simp only []
          rw [if_pos]
          exact List.any_eq_true.2 ⟨brOf s j, List.mem_of_getElem? (i := j) (by rw [List.getElem?_take, if_pos hjk]; exact hbo), hb94⟩
        have hr0 := terms_brk hsb hf1 (firstE_some hX (by rw [hse]; decide) hlt)
        rw [hse] at hr0
        refine Exec.reg ?_
        iterate 4 (refine Run.o ?_)
        refine Run.nild 2 2 (by simp only [go_sem] <;> rfl) (by simp only [go_sem] <;> rfl) ?_
        refine Run.nil ?_
        refine BlkK.ret ?_
        refine ForK.ret ?_
        refine BlkK.ret ?_
        refine BlkK.ret ?_
        refine ForK.ret ?_
        refine BlkK.ret ?_
        exact Ends.fin [] (rs := [.tmp 2, .tmp 3, .tmp 4]) rfl (by simp only [go_sem, hbk, Int.toNat_zero, Nat.zero_mul, Int.toNat_one, Nat.one_mul, hi, idxI, hr, hbo, hr0] <;> rfl) (by simp only [go_sem, hbk, Int.toNat_zero, Nat.zero_mul, Int.toNat_one, Nat.one_mul, hi, idxI, hr, hbo, hr0] <;> first | rfl | ((repeat' (first | with_reducible_and_instances rfl | refine st_eq ?_ ?_ ?_ | refine ret_eq ?_ | refine tup_eq ?_ | refine tm_eq ?_ ?_ | refine arr_eq ?_ | refine cells_eq ?_ | refine val_eq ?_ | refine ls_eq ?_ ?_ | refine own_eq ?_ ?_ | refine sl_eq ?_ | refine b_eq ?_ | (refine i_eq ?_; omega))); done))
      refine BlkK.nrm ?_
      refine Exec.reg1 ?_
      refine Run.o ?_
      refine Run.o1 (by simp only [go_sem, hbk, Int.toNat_zero, Nat.zero_mul, Int.toNat_one, Nat.one_mul, hi, idxI, hr, hbo]; (try simp (disch := omega) only [IntWalk.i64_in, IntWalk.u64_in, if_neg, if_pos])<;> rfl) ?_
      refine Run.o ?_
      refine Run.nil ?_
      refine ForK.nxt ?_ ?_ ?_
      · omega
      · exact Ghost.kp [1, 7, 8, 9] [1] (by simp only [go_sem, hbk, Int.toNat_zero, Nat.zero_mul, Int.toNat_one, Nat.one_mul, hi, idxI, hr, hbo]; first | ((repeat' (first | with_reducible_and_instances rfl | refine st_eq ?_ ?_ ?_ | refine ret_eq ?_ | refine tup_eq ?_ | refine tm_eq ?_ ?_ | refine arr_eq ?_ | refine cells_eq ?_ | refine val_eq ?_ | refine ls_eq ?_ ?_ | refine own_eq ?_ ?_ | refine sl_eq ?_ | refine b_eq ?_ | (refine i_eq ?_; omega))); done) | rfl)
      · exact any_step Xj hbo hb94
    have hjk : k = j := by have := of_decide_eq_false hb79; omega
    subst hjk
    refine Exec.exitS ?_
    refine ForK.ext ?_
    refine BlkK.hit ?_
    refine Exec.opk 15 ?_
    refine OpenK.o ?_
    refine OpenK.o1 (by simp only [go_sem, hbk, Int.toNat_zero, Nat.zero_mul, Int.toNat_one, Nat.one_mul, hi, idxI, hr] <;> rfl) ?_
    refine OpenK.o ?_
    iterate 2 (refine OpenK.o1 (by simp only [go_sem, hbk, Int.toNat_zero, Nat.zero_mul, Int.toNat_one, Nat.one_mul, hi, idxI, hr]; (try simp (disch := omega) only [if_pos]); (try simp only [go_sem, hbk, Int.toNat_zero, Nat.zero_mul, Int.toNat_one, Nat.one_mul, hi, idxI, hr])<;> rfl) ?_)
    refine OpenK.o1 (by simp only [go_sem, hbk, Int.toNat_zero, Nat.zero_mul, Int.toNat_one, Nat.one_mul, hi, idxI, hr] <;> rfl) ?_
    refine OpenK.o ?_
    refine OpenK.o1 (by simp only [go_sem, hbk, Int.toNat_zero, Nat.zero_mul, Int.toNat_one, Nat.one_mul, hi, idxI, hr] <;> rfl) ?_
    refine OpenK.o ?_
    refine OpenK.o1 (by simp only [go_sem, hbk, Int.toNat_zero, Nat.zero_mul, Int.toNat_one, Nat.one_mul, hi, idxI, hr]; (try simp (disch := omega) only [if_pos]); (try simp only [go_sem, hbk, Int.toNat_zero, Nat.zero_mul, Int.toNat_one, Nat.one_mul, hi, idxI, hr])<;> rfl) ?_
    refine OpenK.o ?_
    iterate 2 (refine OpenK.o1 (by simp only [go_sem, hbk, Int.toNat_zero, Nat.zero_mul, Int.toNat_one, Nat.one_mul, hi, idxI, hr] <;> rfl) ?_)
    refine OpenK.nil (OpenE.fin (by decide +kernel) (by decide +kernel) ?_)
    refine Exec.cnd (by simp only [go_sem, hbk, Int.toNat_zero, Nat.zero_mul, Int.toNat_one, Nat.one_mul, hi, idxI, hr] <;> rfl) (fun hb108 => ?_) (fun hb108 => ?_)
    · skip
      have hse : brErr s k = 7 := by unfold brErr; rw [hi]; simp only []; rw [if_neg (by rw [Xj]; decide), if_pos (of_decide_eq_true hb108)]
      have hr0 := terms_brk hsb hf1 (firstE_some hX (by rw [hse]; decide) hlt)
      rw [hse] at hr0
      refine Exec.reg ?_
      iterate 4 (refine Run.o ?_)
      refine Run.nild 2 2 (by simp only [go_sem] <;> rfl) (by simp only [go_sem] <;> rfl) ?_
      refine Run.nil ?_
      refine BlkK.ret ?_
      refine ForK.ret ?_
      refine BlkK.ret ?_
      exact Ends.fin [] (rs := [.tmp 2, .tmp 3, .tmp 4]) rfl (by simp only [go_sem, hbk, Int.toNat_zero, Nat.zero_mul, Int.toNat_one, Nat.one_mul, hi, idxI, hr, hr0] <;> rfl) (by simp only [go_sem, hbk, Int.toNat_zero, Nat.zero_mul, Int.toNat_one, Nat.one_mul, hi, idxI, hr, hr0] <;> first | rfl | ((repeat' (first | with_reducible_and_instances rfl | refine st_eq ?_ ?_ ?_ | refine ret_eq ?_ | refine tup_eq ?_ | refine tm_eq ?_ ?_ | refine arr_eq ?_ | refine cells_eq ?_ | refine val_eq ?_ | refine ls_eq ?_ ?_ | refine own_eq ?_ ?_ | refine sl_eq ?_ | refine b_eq ?_ | (refine i_eq ?_; omega))); done))
    have hse : brErr s k = 0 := by unfold brErr; rw [hi]; simp only []; rw [if_neg (by rw [Xj]; decide), if_neg (of_decide_eq_false hb108)]
    refine BlkK.nrm ?_
    refine Exec.reg1 ?_
    refine Run.o ?_
    refine Run.o1 (by simp only [go_sem, hbk, Int.toNat_zero, Nat.zero_mul, Int.toNat_one, Nat.one_mul, hi, idxI, hr]; (try simp (disch := omega) only [IntWalk.i64_in, IntWalk.u64_in, if_neg, if_pos])<;> rfl) ?_
    refine Run.o ?_
    refine Run.nil ?_
    refine ForK.nxt ?_ ?_ ?_
    · omega
    · exact Ghost.kp [1, 7] [1] (by simp only [go_sem, hbk, Int.toNat_zero, Nat.zero_mul, Int.toNat_one, Nat.one_mul, hi, idxI, hr]; first | ((repeat' (first | with_reducible_and_instances rfl | refine st_eq ?_ ?_ ?_ | refine ret_eq ?_ | refine tup_eq ?_ | refine tm_eq ?_ ?_ | refine arr_eq ?_ | refine cells_eq ?_ | refine val_eq ?_ | refine ls_eq ?_ ?_ | refine own_eq ?_ ?_ | refine sl_eq ?_ | refine b_eq ?_ | (refine i_eq ?_; omega))); done) | rfl)
    · exact fun j hj => if e : j = k then e ▸ hse else hX j (by omega)
  have hf2 : firstE (brErr s) s.bs.length = none := firstE_none.2 fun j hj => hX j (by have := ge_of_dec hb63; omega)
  have hol := ord_len s
  refine Exec.exitS ?_
  refine ForK.ext ?_
  refine BlkK.hit ?_
  refine Exec.reg ?_
  refine Run.o1 (by simp only [go_sem, hol] <;> rfl) ?_
  refine Run.c1 (c_meterworksref07_begin s v) (by simp only [go_sem, hol] <;> rfl) (by simp only [go_sem, hol] <;> rfl) ?_
  refine Run.o ?_
  refine Run.nil ?_
  refine Exec.reg ?_
  refine Run.o1 (by simp only [go_sem, hol] <;> rfl) ?_
  refine Run.c1 (c_meterworksref07_order s v) (by simp only [go_sem, hol] <;> rfl) (by simp only [go_sem, hol] <;> rfl) ?_
  refine Run.o ?_
  refine Run.nil ?_
  refine Exec.assocS ?_
  refine Exec.reg ?_
  refine Run.o ?_
  refine Run.nil ?_
  refine Exec.blk ?_
  refine Exec.forA [1, 10, 11, 12] [1] (s.ps.length) (fun k => [.slot 12 (.int k), .slot 10 (.leaf (.d (tmsD (stAt s k))))]) (fun k => ∀ j, j < k → prErr s j = 0) (fun k => by simp only [go_sem] <;> rfl) (by simp only [go_sem, hol, Int.natCast_zero, hb0] <;> rfl) ?_ (fun k hk hX => ?_)
  · exact fun j hj => absurd hj (by omega)
  refine Exec.assocS ?_
  refine Exec.reg ?_
  iterate 2 (refine Run.o ?_)
  iterate 2 (refine Run.o1 (by simp only [go_sem, hol] <;> rfl) ?_)
  refine Run.nil ?_
  refine Exec.cndS (by simp only [go_sem, hol] <;> rfl) (fun hb117 => ?_) (fun hb117 => ?_)
  · skip
    have hlt : k < s.ps.length := by have := of_decide_eq_true hb117; omega
    obtain ⟨n, hn⟩ : ∃ n, (ordI s)[k]? = some n := ⟨_, List.getElem?_eq_getElem (by omega)⟩
    have hnl := ord_lt hn
    have hng : (ordI s).getD k 0 = n := getD_of hn
    have hpn := prOf_get hnl
    have hpe : prfErr s (stAt s k) (prOf s n) = prErr s k := by unfold prErr; rw [hng]
    have hpa : aftT s (prOf s n) (stAt s k) = stAt s (k + 1) := by show _ = aftT s (prOf s ((ordI s).getD k 0)) (stAt s k); rw [hng]
    refine Exec.skipS ?_
    refine Exec.blk ?_
    refine Exec.opk 12 ?_
    refine OpenK.o ?_
    refine OpenK.o1 (by simp only [go_sem, hol, hn, hpn, hpe, hpa] <;> rfl) ?_
    iterate 2 (refine OpenK.o ?_)
    refine OpenK.o1 (by simp only [go_sem, hol, hn, hpn, hpe, hpa]; (try simp (disch := omega) only [if_pos]); (try simp only [go_sem, hol, hn, hpn, hpe, hpa])<;> rfl) ?_
    refine OpenK.o1 (by simp only [go_sem, hol, hn, hpn, hpe, hpa] <;> rfl) ?_
    refine OpenK.o1 (by simp only [go_sem, hol, hn, hpn, hpe, hpa]; (try simp (disch := omega) only [if_pos]); (try simp only [go_sem, hol, hn, hpn, hpe, hpa])<;> rfl) ?_
    refine OpenK.o1 (by simp only [go_sem, hol, hn, hpn, hpe, hpa] <;> rfl) ?_
    iterate 2 (refine OpenK.o ?_)
    refine OpenK.nil (OpenE.fin (by decide +kernel) (by decide +kernel) ?_)
    refine Exec.reg ?_
    refine Run.o1 (by simp only [go_sem, hol, hn, hpn, hpe, hpa] <;> rfl) ?_
    refine Run.o ?_
    refine Run.o1 (by simp only [go_sem, hol, hn, hpn, hpe, hpa] <;> rfl) ?_
    refine Run.c1 (c_meterworksref07_proof s v (prOf s n) (prOf_mem hnl) (stAt s k) (tmb_st v k (by omega))) (by simp only [go_sem, hol, hn, hpn, hpe, hpa] <;> rfl) (by simp only [go_sem, hol, hn, hpn, hpe, hpa] <;> rfl) ?_
    refine Run.o ?_
    refine Run.nil ?_
    refine Exec.assocS ?_
    refine Exec.reg ?_
    refine Run.o ?_
    refine Run.o1 (by simp only [go_sem, hol, hn, hpn, hpe, hpa] <;> rfl) ?_
    refine Run.nil ?_
    refine Exec.cndS (by simp only [go_sem, hol, hn, hpn, hpe, hpa] <;> rfl) (fun hb133 => ?_) (fun hb133 => ?_)
    · skip
      have hne : prErr s k ≠ 0 := by simpa using hb133
      have hr0 := terms_prf hsb hf1 hf2 (firstE_some hX hne hlt)
      rw [hng] at hr0
      refine Exec.assocS ?_
      refine Exec.opk 10 ?_
      iterate 2 (refine OpenK.o ?_)
      refine OpenK.o1 (by simp only [go_sem, hol, hn, hpn, hpe, hpa, hr0]; (try simp (disch := omega) only [if_pos]); (try simp only [go_sem, hol, hn, hpn, hpe, hpa, hr0])<;> rfl) ?_
      refine OpenK.o1 (by simp only [go_sem, hol, hn, hpn, hpe, hpa, hr0] <;> rfl) ?_
      iterate 4 (refine OpenK.o ?_)
      refine OpenK.nil (OpenE.gho (by decide +kernel) (by decide +kernel) (Ghost.nild 2 2 (by simp only [go_sem] <;> rfl)) (by simp only [go_sem] <;> rfl) ?_)
      refine Exec.retS ?_
      refine BlkK.ret ?_
      refine ForK.ret ?_
      refine BlkK.ret ?_
      exact Ends.fin [] (rs := [.tmp 2, .tmp 3, .tmp 4]) rfl (by simp only [go_sem, hol, hn, hpn, hpe, hpa, hr0] <;> rfl) (by simp only [go_sem, hol, hn, hpn, hpe, hpa, hr0] <;> first | rfl | ((repeat' (first | with_reducible_and_instances rfl | refine st_eq ?_ ?_ ?_ | refine ret_eq ?_ | refine tup_eq ?_ | refine tm_eq ?_ ?_ | refine arr_eq ?_ | refine cells_eq ?_ | refine val_eq ?_ | refine ls_eq ?_ ?_ | refine own_eq ?_ ?_ | refine sl_eq ?_ | refine b_eq ?_ | (refine i_eq ?_; omega))); done))
    have hse : prErr s k = 0 := by simpa using hb133
    refine Exec.skipS ?_
    refine Exec.reg1 ?_
    refine Run.o1 (by simp only [go_sem, hol, hn, hpn, hpe, hpa] <;> rfl) ?_
    refine Run.o ?_
    refine Run.o1 (by simp only [go_sem, hol, hn, hpn, hpe, hpa] <;> rfl) ?_
    refine Run.c1 (c_meterworksref07_after s v (prOf s n) (prOf_mem hnl) (stAt s k) (tmb_st v k (by omega))) (by simp only [go_sem, hol, hn, hpn, hpe, hpa] <;> rfl) (by simp only [go_sem, hol, hn, hpn, hpe, hpa] <;> rfl) ?_
    refine Run.o ?_
    refine Run.nil ?_
    refine BlkK.nrm ?_
    refine Exec.reg1 ?_
    refine Run.o ?_
    refine Run.o1 (by simp only [go_sem, hol, hn, hpn, hpe, hpa]; (try simp (disch := omega) only [IntWalk.i64_in, IntWalk.u64_in, if_neg, if_pos])<;> rfl) ?_
    refine Run.o ?_
    refine Run.nil ?_
    refine ForK.nxt ?_ ?_ ?_
    · omega
    · exact Ghost.kp [1, 10, 11, 12] [1] (by simp only [go_sem, hol, hn, hpn, hpe, hpa]; first | ((repeat' (first | with_reducible_and_instances rfl | refine st_eq ?_ ?_ ?_ | refine ret_eq ?_ | refine tup_eq ?_ | refine tm_eq ?_ ?_ | refine arr_eq ?_ | refine cells_eq ?_ | refine val_eq ?_ | refine ls_eq ?_ ?_ | refine own_eq ?_ ?_ | refine sl_eq ?_ | refine b_eq ?_ | (refine i_eq ?_; omega))); done) | rfl)
    · exact fun j hj => if e : j = k then e ▸ hse else hX j (by omega)
  have hke : k = s.ps.length := by have := of_decide_eq_false hb117; omega
  subst hke
  have hr0 := terms_ok hsb hf1 hf2 (firstE_none.2 fun j hj => hX j hj)
  refine Exec.exitS ?_
  refine ForK.ext ?_
  refine BlkK.hit ?_
  refine Exec.reg ?_
  iterate 4 (refine Run.o ?_)
  refine Run.nil ?_
  exact Ends.fin [] (rs := [.tmp 2, .tmp 3, .tmp 4]) rfl (by simp only [go_sem, hol, hr0] <;> rfl) (by simp only [go_sem, hol, hr0] <;> first | rfl | ((repeat' (first | with_reducible_and_instances rfl | refine st_eq ?_ ?_ ?_ | refine ret_eq ?_ | refine tup_eq ?_ | refine tm_eq ?_ ?_ | refine arr_eq ?_ | refine cells_eq ?_ | refine val_eq ?_ | refine ls_eq ?_ ?_ | refine own_eq ?_ ?_ | refine sl_eq ?_ | refine b_eq ?_ | (refine i_eq ?_; omega))); done))

end Go.Mw

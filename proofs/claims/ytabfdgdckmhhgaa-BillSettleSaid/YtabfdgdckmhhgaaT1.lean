/- Contracts of the statements BillSums and BillRises. -/
import Derived.Test.YtabfdgdckmhhgaaB11
import Derived.Test.YtabfdgdckmhhgaaB4
import Derived.Test.YtabfdgdckmhhgaaRows
set_option linter.unusedSimpArgs false
set_option linter.unusedVariables false
set_option linter.unusedSectionVars false
set_option linter.deprecated false
namespace Go.Mw
open Go.Proofs
open Go.Bi
attribute [local go_sem] decide_true beq_self_eq_true bne_self_eq_false
theorem open_ok {a : Ac} {day known : Int} (h : startE a = 0) (hd : a.start ≤ day ∧ day ≤ 131072) (hk : 0 ≤ known ∧ known ≤ 131072) (ho : ordB a known = true) : openE a day known = 0 := by
  unfold openE
  rw [if_neg (by simp [h]), if_neg (by rw [inD_iff.2 hd, inD_iff.2 hk]; decide), if_neg (by rw [ho]; decide)]
end Go.Mw
namespace Go.Mw
open Go.Proofs
open Go.Bi
attribute [local go_sem] decide_true beq_self_eq_true bne_self_eq_false
/-- The notes, turned. -/
def rotT (l : List Nt) (t k : Nat) : List Nt := (List.range k).map fun i => l.getD ((i + t) % l.length) default
end Go.Mw
namespace Go.Mw
open Go.Proofs
open Go.Bi
attribute [local go_sem] decide_true beq_self_eq_true bne_self_eq_false
theorem settle_zero {a : Ac} {i : Int} (h : settleE a i = 0) : startE a = 0 ∧ inD i 0 ((a.ds.length : Int) - 1) = true ∧ ordB a (dpAt a i).day = true := by
  unfold settleE at h
  split at h
  · rename_i h1; exact absurd h h1
  · rename_i h1
    split at h
    · cases h
    · rename_i h2
      split at h
      · cases h
      · rename_i h3
        exact ⟨by simpa using h1, by simpa using h2, by simpa using h3⟩
theorem settleR_E (a : Ac) (i : Int) : (settleR a i).2 = settleE a i := by
  unfold settleR
  split
  · rename_i h; exact h.symm
  · rfl
set_option maxRecDepth 20000 in
set_option maxHeartbeats 64000000 in
/-- meterworks/meterworkslaw13.BillSettle -/
theorem c_law_BillSettle (a : Ac) (i day : Int) : Contract Try.prog 8 [acV a, .int i, .int day] (.bool true) [] := by
  have hb2 := settleR_E a i
  refine con_of follows_mixed Try.func8 rfl (by simp only [List.length_cons, List.length_nil, Try.ntmps8]; omega) (by kernel_rfl) rfl ?_
  refine Exec.reg ?_
  iterate 2 (refine Run.o1 (by simp only [go_sem, gt_iff_lt, ge_iff_le, pick_max, Int.zero_sub, hb2] <;> rfl) ?_)
  refine Run.nil ?_
  refine Exec.assocS ?_
  refine Exec.reg ?_
  refine Run.o1 (by simp only [go_sem, gt_iff_lt, ge_iff_le, pick_max, Int.zero_sub, hb2] <;> rfl) ?_
  refine Run.c1 (c_law_large a) (by simp only [go_sem, gt_iff_lt, ge_iff_le, pick_max, Int.zero_sub, hb2] <;> rfl) (by simp only [go_sem, gt_iff_lt, ge_iff_le, pick_max, Int.zero_sub, hb2] <;> rfl) ?_
  refine Run.nil ?_
  refine Exec.cndS (by simp only [go_sem, gt_iff_lt, ge_iff_le, pick_max, Int.zero_sub, hb2] <;> rfl) (fun hb25 => ?_) (fun hb25 => ?_)
  · skip
    refine Exec.assocS ?_
    refine Exec.reg ?_
    refine Run.c1 (c_law_awake) (by simp only [go_sem, gt_iff_lt, ge_iff_le, pick_max, Int.zero_sub, hb2] <;> rfl) (by simp only [go_sem, gt_iff_lt, ge_iff_le, pick_max, Int.zero_sub, hb2] <;> rfl) ?_
    refine Run.o1 (by simp only [go_sem, gt_iff_lt, ge_iff_le, pick_max, Int.zero_sub, hb2] <;> rfl) ?_
    refine Run.nil ?_
    refine Exec.retS ?_
    exact Ends.fin [] (rs := [.tmp 6]) rfl (by simp only [go_sem, gt_iff_lt, ge_iff_le, pick_max, Int.zero_sub, hb2] <;> rfl) (by simp only [go_sem, gt_iff_lt, ge_iff_le, pick_max, Int.zero_sub, hb2] <;> first | rfl | exact eqz)
  · skip
    refine Exec.skipS ?_
    refine Exec.reg ?_
    iterate 2 (refine Run.o1 (by simp only [go_sem, gt_iff_lt, ge_iff_le, pick_max, Int.zero_sub, hb2] <;> rfl) ?_)
    refine Run.c1 (c_bill_Settle a i) (by simp only [go_sem, gt_iff_lt, ge_iff_le, pick_max, Int.zero_sub, hb2] <;> rfl) (by simp only [go_sem, gt_iff_lt, ge_iff_le, pick_max, Int.zero_sub, hb2] <;> rfl) ?_
    iterate 5 (refine Run.o1 (by simp only [go_sem, gt_iff_lt, ge_iff_le, pick_max, Int.zero_sub, hb2] <;> rfl) ?_)
    refine Run.nil ?_
    refine Exec.assocS ?_
    refine Exec.reg ?_
    iterate 2 (refine Run.o1 (by simp only [go_sem, gt_iff_lt, ge_iff_le, pick_max, Int.zero_sub, hb2] <;> rfl) ?_)
    refine Run.nil ?_
    refine Exec.cndS (by simp only [go_sem, gt_iff_lt, ge_iff_le, pick_max, Int.zero_sub, hb2] <;> rfl) (fun hb34 => ?_) (fun hb34 => ?_)
    · skip
      have hne : settleE a i ≠ 0 := by have h := hb34; simp only [bne_iff_ne, ne_eq] at h; exact h
      have hr : settleR a i = (0, settleE a i) := if_neg hne
      refine Exec.assocS ?_
      refine Exec.reg ?_
      iterate 3 (refine Run.o1 (by simp only [go_sem, gt_iff_lt, ge_iff_le, pick_max, Int.zero_sub, hb2, hr] <;> rfl) ?_)
      refine Run.calw (by simp only [go_sem] <;> rfl) (c_law_awake) (by simp only [go_sem]) (by simp only [go_sem, gt_iff_lt, ge_iff_le, pick_max, Int.zero_sub, hb2, hr] <;> rfl) (by simp only [go_sem, gt_iff_lt, ge_iff_le, pick_max, Int.zero_sub, hb2, hr] <;> rfl) (by exact trivial) (fr0) (by simp only [go_sem, gt_iff_lt, ge_iff_le, pick_max, Int.zero_sub, hb2, hr] <;> rfl) ?_
      iterate 2 (refine Run.o1 (by simp only [go_sem, gt_iff_lt, ge_iff_le, pick_max, Int.zero_sub, hb2, hr] <;> rfl) ?_)
      refine Run.nil ?_
      refine Exec.retS ?_
      exact Ends.fin [] (rs := [.tmp 6]) rfl (by simp only [go_sem, gt_iff_lt, ge_iff_le, pick_max, Int.zero_sub, hb2, hr] <;> rfl) (by simp only [go_sem, gt_iff_lt, ge_iff_le, pick_max, Int.zero_sub, hb2, hr] <;> first | rfl | exact eqz)
    · skip
      have hE : settleE a i = 0 := by have h := hb34; simp only [bne_eq_false_iff_eq] at h; exact h
      obtain ⟨hs, hin, ho⟩ := settle_zero hE
      have hib := inD_iff.1 hin
      have v := start_val hs
      have hnd := v.nds
      have hst := v.start
      have hA := (start_zero hs).1
      have hdd := settle_open v hin
      have hr : settleR a i = (cost a (dpAt a i).day (-1) (dpAt a i).day - cost a (dpAt a i).day i (dpAt a i).day, 0) := if_pos hE
      obtain ⟨m, rfl⟩ : ∃ m : Nat, i = m := ⟨i.toNat, by omega⟩
      have hm : m < a.ds.length := by omega
      have hda : dpAt a m = (a.ds.getD m default) := rfl
      rw [hda] at hr hdd ho
      have hk1 := dp_get hm
      have hdv := mem_val v (List.mem_of_getElem? hk1)
      have g1 : decide ((m : Int) < 0) = false := decide_eq_false (by omega)
      have g2 : decide ((a.ds.length : Int) ≤ (m : Int)) = false := decide_eq_false (by omega)
      have t1 : ((m : Int)).toNat = m := rfl
      have t2 : ((m : Int) + 1).toNat = m + 1 := by omega
      have h0 : openE a (a.ds.getD m default).day (a.ds.getD m default).day = 0 := open_ok hs hdd (by omega) ho
      have r1 : usedR a (a.ds.getD m default).day (a.ds.getD m default).day = (used a (a.ds.getD m default).day (-1) (a.ds.getD m default).day, 0) := if_pos h0
      have r2 : usedR (woD a m) (a.ds.getD m default).day (a.ds.getD m default).day = (used a (a.ds.getD m default).day m (a.ds.getD m default).day, 0) := by rw [usedR_wo hm hs, if_pos h0]
      have r3 : costR a (a.ds.getD m default).day (a.ds.getD m default).day = (cost a (a.ds.getD m default).day (-1) (a.ds.getD m default).day, 0) := if_pos h0
      have r4 : costR (woD a m) (a.ds.getD m default).day (a.ds.getD m default).day = (cost a (a.ds.getD m default).day m (a.ds.getD m default).day, 0) := by rw [costR_wo hm hs, if_pos h0]
      have r5 := costR_out hm hs day (known := (a.ds.getD m default).day - 1) (by omega)
      have c1 := cost_bnd v (but := -1) ho hdd
      have c2 := cost_bnd v (but := m) ho hdd
      have hsp : List.map encDp (a.ds.take m ++ a.ds.drop (m + 1)) = List.take m (List.map encDp a.ds) ++ List.drop (m + 1) (List.map encDp a.ds) := by rw [List.map_append, List.map_take, List.map_drop]
      have hta : List.take ((List.drop (Int.toNat 0) (List.take m (List.map encDp a.ds))).length + (List.drop (m + 1) (List.map encDp a.ds)).length) (List.drop (Int.toNat 0) (List.take m (List.map encDp a.ds)) ++ List.drop (m + 1) (List.map encDp a.ds)) = List.map encDp (a.ds.take m ++ a.ds.drop (m + 1)) := by
        rw [hsp]
        have e : List.drop (Int.toNat 0) (List.take m (List.map encDp a.ds)) = List.take m (List.map encDp a.ds) := rfl
        rw [e, List.take_of_length_le (by rw [List.length_append]; exact Nat.le_refl _)]
      refine Exec.skipS ?_
      refine Exec.assocS ?_
      refine Exec.reg ?_
      refine Run.o1 (by simp only [go_sem, gt_iff_lt, ge_iff_le, pick_max, Int.zero_sub, hb2, hr, hA, g1, g2, hk1, t1, t2, r1, r2, r3, r4, r5] <;> rfl) ?_
      refine Run.c1 (c_ref_Account a) (by simp only [go_sem, gt_iff_lt, ge_iff_le, pick_max, Int.zero_sub, hb2, hr, hA, g1, g2, hk1, t1, t2, r1, r2, r3, r4, r5] <;> rfl) (by simp only [go_sem, gt_iff_lt, ge_iff_le, pick_max, Int.zero_sub, hb2, hr, hA, g1, g2, hk1, t1, t2, r1, r2, r3, r4, r5] <;> rfl) ?_
      iterate 2 (refine Run.o1 (by simp only [go_sem, gt_iff_lt, ge_iff_le, pick_max, Int.zero_sub, hb2, hr, hA, g1, g2, hk1, t1, t2, r1, r2, r3, r4, r5] <;> rfl) ?_)
      iterate 2 (refine Run.y1 (by simp only [go_sem, gt_iff_lt, ge_iff_le, pick_max, Int.zero_sub, hb2, hr, hA, g1, g2, hk1, t1, t2, r1, r2, r3, r4, r5] <;> rfl) ?_)
      iterate 2 (refine Run.o1 (by simp only [go_sem, gt_iff_lt, ge_iff_le, pick_max, Int.zero_sub, hb2, hr, hA, g1, g2, hk1, t1, t2, r1, r2, r3, r4, r5] <;> rfl) ?_)
      iterate 5 (refine Run.y1 (by simp only [go_sem, gt_iff_lt, ge_iff_le, pick_max, Int.zero_sub, hb2, hr, hA, g1, g2, hk1, t1, t2, r1, r2, r3, r4, r5] <;> rfl) ?_)
      refine Run.o1 (by simp only [go_sem, gt_iff_lt, ge_iff_le, pick_max, Int.zero_sub, hb2, hr, hA, g1, g2, hk1, t1, t2, r1, r2, r3, r4, r5] <;> rfl) ?_
      refine Run.nil ?_
      refine Exec.cndS (by simp only [go_sem, gt_iff_lt, ge_iff_le, pick_max, Int.zero_sub, hb2, hr, hA, g1, g2, hk1, t1, t2, r1, r2, r3, r4, r5] <;> rfl) (fun hb53 => ?_) (fun hb53 => ?_)
      · exact absurd hb53 (by simp)
      · skip
        refine Exec.skipS ?_
        refine Exec.reg ?_
        iterate 3 (refine Run.o1 (by simp only [go_sem, gt_iff_lt, ge_iff_le, pick_max, Int.zero_sub, hb2, hr, hA, g1, g2, hk1, t1, t2, r1, r2, r3, r4, r5] <;> rfl) ?_)
        refine Run.o1 (by simp only [go_sem, gt_iff_lt, ge_iff_le, pick_max, Int.zero_sub, hb2, hr, hA, g1, g2, hk1, t1, t2, r1, r2, r3, r4, r5]; (try simp (disch := omega) only [if_pos]); (try simp only [go_sem, gt_iff_lt, ge_iff_le, pick_max, Int.zero_sub, hb2, hr, hA, g1, g2, hk1, t1, t2, r1, r2, r3, r4, r5])<;> rfl) ?_
        iterate 3 (refine Run.o1 (by simp only [go_sem, gt_iff_lt, ge_iff_le, pick_max, Int.zero_sub, hb2, hr, hA, g1, g2, hk1, t1, t2, r1, r2, r3, r4, r5] <;> rfl) ?_)
        refine Run.nil ?_
        refine Exec.reg ?_
        iterate 3 (refine Run.o1 (by simp only [go_sem, gt_iff_lt, ge_iff_le, pick_max, Int.zero_sub, hb2, hr, hA, g1, g2, hk1, t1, t2, r1, r2, r3, r4, r5] <;> rfl) ?_)
        refine Run.nil ?_
        refine Exec.opk 16 ?_
        iterate 4 (refine OpenK.o1 (by simp only [go_sem, gt_iff_lt, ge_iff_le, pick_max, Int.zero_sub, hb2, hr, hA, g1, g2, hk1, t1, t2, r1, r2, r3, r4, r5] <;> rfl) ?_)
        refine OpenK.o1 (by simp only [go_sem, gt_iff_lt, ge_iff_le, pick_max, Int.zero_sub, hb2, hr, hA, g1, g2, hk1, t1, t2, r1, r2, r3, r4, r5]; (try simp (disch := omega) only [if_pos]); (try simp only [go_sem, gt_iff_lt, ge_iff_le, pick_max, Int.zero_sub, hb2, hr, hA, g1, g2, hk1, t1, t2, r1, r2, r3, r4, r5])<;> rfl) ?_
        refine OpenK.o1 (by simp only [go_sem, gt_iff_lt, ge_iff_le, pick_max, Int.zero_sub, hb2, hr, hA, g1, g2, hk1, t1, t2, r1, r2, r3, r4, r5]; (try simp (disch := omega) only [if_pos]); (try simp only [go_sem, gt_iff_lt, ge_iff_le, pick_max, Int.zero_sub, hb2, hr, hA, g1, g2, hk1, t1, t2, r1, r2, r3, r4, r5]) <;> first | (refine ite_run ⟨by (try simp only [List.length_append, List.length_drop, List.length_take, List.length_map, List.length_cons, List.length_nil, List.length_replicate, List.length_set, List.length_range, Nat.zero_add]); omega, by (try simp only [List.length_append, List.length_drop, List.length_take, List.length_map, List.length_cons, List.length_nil, List.length_replicate, List.length_set, List.length_range, Nat.zero_add]); omega, by repeat (first | exact al_nil | assumption | refine al_app ?_ ?_ | refine al_drop ?_ | refine al_take ?_ | exact al_map (fun _ => rfl) | exact al_rep rfl | refine al_cons rfl ?_)⟩ ?_; simp only [go_sem, gt_iff_lt, ge_iff_le, pick_max, Int.zero_sub, hb2, hr, hA, g1, g2, hk1, t1, t2, r1, r2, r3, r4, r5] <;> rfl) | (refine ite_run ⟨by (try simp only [List.length_append, List.length_drop, List.length_take, List.length_map, List.length_cons, List.length_nil, List.length_replicate, List.length_set, List.length_range, Nat.zero_add]); omega, by repeat (first | exact al_nil | assumption | refine al_app ?_ ?_ | refine al_drop ?_ | refine al_take ?_ | exact al_map (fun _ => rfl) | exact al_rep rfl | refine al_cons rfl ?_)⟩ ?_; simp only [go_sem, gt_iff_lt, ge_iff_le, pick_max, Int.zero_sub, hb2, hr, hA, g1, g2, hk1, t1, t2, r1, r2, r3, r4, r5] <;> rfl) | rfl) ?_
        iterate 3 (refine OpenK.o1 (by simp only [go_sem, gt_iff_lt, ge_iff_le, pick_max, Int.zero_sub, hb2, hr, hA, g1, g2, hk1, t1, t2, r1, r2, r3, r4, r5] <;> rfl) ?_)
        refine OpenK.o1 (by simp only [go_sem, gt_iff_lt, ge_iff_le, pick_max, Int.zero_sub, hb2, hr, hA, g1, g2, hk1, t1, t2, r1, r2, r3, r4, r5]; (try simp (disch := omega) only [IntWalk.i64_in, IntWalk.u64_in, if_neg, if_pos])<;> rfl) ?_
        refine OpenK.o1 (by simp only [go_sem, gt_iff_lt, ge_iff_le, pick_max, Int.zero_sub, hb2, hr, hA, g1, g2, hk1, t1, t2, r1, r2, r3, r4, r5]; (try simp (disch := omega) only [if_pos]); (try simp only [go_sem, gt_iff_lt, ge_iff_le, pick_max, Int.zero_sub, hb2, hr, hA, g1, g2, hk1, t1, t2, r1, r2, r3, r4, r5])<;> rfl) ?_
        refine OpenK.o1 (by simp only [go_sem, gt_iff_lt, ge_iff_le, pick_max, Int.zero_sub, hb2, hr, hA, g1, g2, hk1, t1, t2, r1, r2, r3, r4, r5]; (try simp (disch := omega) only [if_pos]); (try simp only [go_sem, gt_iff_lt, ge_iff_le, pick_max, Int.zero_sub, hb2, hr, hA, g1, g2, hk1, t1, t2, r1, r2, r3, r4, r5]) <;> first | (refine ite_run ⟨by (try simp only [List.length_append, List.length_drop, List.length_take, List.length_map, List.length_cons, List.length_nil, List.length_replicate, List.length_set, List.length_range, Nat.zero_add]); omega, by (try simp only [List.length_append, List.length_drop, List.length_take, List.length_map, List.length_cons, List.length_nil, List.length_replicate, List.length_set, List.length_range, Nat.zero_add]); omega, by repeat (first | exact al_nil | assumption | refine al_app ?_ ?_ | refine al_drop ?_ | refine al_take ?_ | exact al_map (fun _ => rfl) | exact al_rep rfl | refine al_cons rfl ?_)⟩ ?_; simp only [go_sem, gt_iff_lt, ge_iff_le, pick_max, Int.zero_sub, hb2, hr, hA, g1, g2, hk1, t1, t2, r1, r2, r3, r4, r5] <;> rfl) | (refine ite_run ⟨by (try simp only [List.length_append, List.length_drop, List.length_take, List.length_map, List.length_cons, List.length_nil, List.length_replicate, List.length_set, List.length_range, Nat.zero_add]); omega, by repeat (first | exact al_nil | assumption | refine al_app ?_ ?_ | refine al_drop ?_ | refine al_take ?_ | exact al_map (fun _ => rfl) | exact al_rep rfl | refine al_cons rfl ?_)⟩ ?_; simp only [go_sem, gt_iff_lt, ge_iff_le, pick_max, Int.zero_sub, hb2, hr, hA, g1, g2, hk1, t1, t2, r1, r2, r3, r4, r5] <;> rfl) | rfl) ?_
        iterate 2 (refine OpenK.o1 (by simp only [go_sem, gt_iff_lt, ge_iff_le, pick_max, Int.zero_sub, hb2, hr, hA, g1, g2, hk1, t1, t2, r1, r2, r3, r4, r5] <;> rfl) ?_)
        refine OpenK.nil (OpenE.gho (by decide +kernel) (by decide +kernel) (Ghost.frzA 60) (by simp only [go_sem] <;> rfl) ?_)
        refine Exec.assocS ?_
        refine Exec.reg ?_
        iterate 4 (refine Run.o1 (by simp only [go_sem, gt_iff_lt, ge_iff_le, pick_max, Int.zero_sub, hb2, hr, hA, g1, g2, hk1, t1, t2, r1, r2, r3, r4, r5, hta] <;> rfl) ?_)
        refine Run.o1 (by simp only [go_sem, gt_iff_lt, ge_iff_le, pick_max, Int.zero_sub, hb2, hr, hA, g1, g2, hk1, t1, t2, r1, r2, r3, r4, r5, hta]; (try simp (disch := omega) only [IntWalk.i64_in, IntWalk.u64_in, if_neg, if_pos])<;> rfl) ?_
        iterate 4 (refine Run.o1 (by simp only [go_sem, gt_iff_lt, ge_iff_le, pick_max, Int.zero_sub, hb2, hr, hA, g1, g2, hk1, t1, t2, r1, r2, r3, r4, r5, hta] <;> rfl) ?_)
        refine Run.nil ?_
        refine Exec.cndS (by simp only [go_sem, gt_iff_lt, ge_iff_le, pick_max, Int.zero_sub, hb2, hr, hA, g1, g2, hk1, t1, t2, r1, r2, r3, r4, r5, hta] <;> rfl) (fun hb81 => ?_) (fun hb81 => ?_)
        · skip
          have hu : uph (a.ds.getD m default) = false := decide_eq_false (by have := of_decide_eq_true hb81; omega)
          obtain ⟨q1, q2⟩ := settle_no hm hu (Int.le_refl _) (a.ds.getD m default).day
          have q3 : cost a (a.ds.getD m default).day (-1) (a.ds.getD m default).day - cost a (a.ds.getD m default).day m (a.ds.getD m default).day = (a.ds.getD m default).fee := by omega
          refine Exec.assocS ?_
          refine Exec.reg ?_
          iterate 5 (refine Run.o1 (by simp only [go_sem, gt_iff_lt, ge_iff_le, pick_max, Int.zero_sub, hb2, hr, hA, g1, g2, hk1, t1, t2, r1, r2, r3, r4, r5, hta, q1, q3] <;> rfl) ?_)
          refine Run.c1 (c_bill_Used a (a.ds.getD m default).day (a.ds.getD m default).day) (by simp only [go_sem, gt_iff_lt, ge_iff_le, pick_max, Int.zero_sub, hb2, hr, hA, g1, g2, hk1, t1, t2, r1, r2, r3, r4, r5, hta, q1, q3] <;> rfl) (by simp only [go_sem, gt_iff_lt, ge_iff_le, pick_max, Int.zero_sub, hb2, hr, hA, g1, g2, hk1, t1, t2, r1, r2, r3, r4, r5, hta, q1, q3] <;> rfl) ?_
          iterate 5 (refine Run.o1 (by simp only [go_sem, gt_iff_lt, ge_iff_le, pick_max, Int.zero_sub, hb2, hr, hA, g1, g2, hk1, t1, t2, r1, r2, r3, r4, r5, hta, q1, q3] <;> rfl) ?_)
          refine Run.nil ?_
          refine Exec.assocS ?_
          refine Exec.reg ?_
          iterate 5 (refine Run.o1 (by simp only [go_sem, gt_iff_lt, ge_iff_le, pick_max, Int.zero_sub, hb2, hr, hA, g1, g2, hk1, t1, t2, r1, r2, r3, r4, r5, hta, q1, q3] <;> rfl) ?_)
          refine Run.c1 (c_bill_Used (woD a m) (a.ds.getD m default).day (a.ds.getD m default).day) (by simp only [go_sem, gt_iff_lt, ge_iff_le, pick_max, Int.zero_sub, hb2, hr, hA, g1, g2, hk1, t1, t2, r1, r2, r3, r4, r5, hta, q1, q3] <;> rfl) (by simp only [go_sem, gt_iff_lt, ge_iff_le, pick_max, Int.zero_sub, hb2, hr, hA, g1, g2, hk1, t1, t2, r1, r2, r3, r4, r5, hta, q1, q3] <;> rfl) ?_
          iterate 5 (refine Run.o1 (by simp only [go_sem, gt_iff_lt, ge_iff_le, pick_max, Int.zero_sub, hb2, hr, hA, g1, g2, hk1, t1, t2, r1, r2, r3, r4, r5, hta, q1, q3] <;> rfl) ?_)
          refine Run.nil ?_
          refine Exec.assocS ?_
          refine Exec.reg ?_
          iterate 5 (refine Run.o1 (by simp only [go_sem, gt_iff_lt, ge_iff_le, pick_max, Int.zero_sub, hb2, hr, hA, g1, g2, hk1, t1, t2, r1, r2, r3, r4, r5, hta, q1, q3] <;> rfl) ?_)
          iterate 3 (refine Run.y1 (by simp only [go_sem, gt_iff_lt, ge_iff_le, pick_max, Int.zero_sub, hb2, hr, hA, g1, g2, hk1, t1, t2, r1, r2, r3, r4, r5, hta, q1, q3] <;> rfl) ?_)
          iterate 2 (refine Run.o1 (by simp only [go_sem, gt_iff_lt, ge_iff_le, pick_max, Int.zero_sub, hb2, hr, hA, g1, g2, hk1, t1, t2, r1, r2, r3, r4, r5, hta, q1, q3] <;> rfl) ?_)
          iterate 2 (refine Run.y1 (by simp only [go_sem, gt_iff_lt, ge_iff_le, pick_max, Int.zero_sub, hb2, hr, hA, g1, g2, hk1, t1, t2, r1, r2, r3, r4, r5, hta, q1, q3] <;> rfl) ?_)
          iterate 2 (refine Run.o1 (by simp only [go_sem, gt_iff_lt, ge_iff_le, pick_max, Int.zero_sub, hb2, hr, hA, g1, g2, hk1, t1, t2, r1, r2, r3, r4, r5, hta, q1, q3] <;> rfl) ?_)
          iterate 2 (refine Run.y1 (by simp only [go_sem, gt_iff_lt, ge_iff_le, pick_max, Int.zero_sub, hb2, hr, hA, g1, g2, hk1, t1, t2, r1, r2, r3, r4, r5, hta, q1, q3] <;> rfl) ?_)
          refine Run.o1 (by simp only [go_sem, gt_iff_lt, ge_iff_le, pick_max, Int.zero_sub, hb2, hr, hA, g1, g2, hk1, t1, t2, r1, r2, r3, r4, r5, hta, q1, q3] <;> rfl) ?_
          refine Run.nil ?_
          refine Exec.cndS (by simp only [go_sem, gt_iff_lt, ge_iff_le, pick_max, Int.zero_sub, hb2, hr, hA, g1, g2, hk1, t1, t2, r1, r2, r3, r4, r5, hta, q1, q3] <;> rfl) (fun hb116 => ?_) (fun hb116 => ?_)
          · exact absurd hb116 (by simp)
          · skip
            refine Exec.skipS ?_
            refine Exec.reg ?_
            iterate 2 (refine Run.o1 (by simp only [go_sem, gt_iff_lt, ge_iff_le, pick_max, Int.zero_sub, hb2, hr, hA, g1, g2, hk1, t1, t2, r1, r2, r3, r4, r5, hta, q1, q3] <;> rfl) ?_)
            refine Run.o1 (by simp only [go_sem, gt_iff_lt, ge_iff_le, pick_max, Int.zero_sub, hb2, hr, hA, g1, g2, hk1, t1, t2, r1, r2, r3, r4, r5, hta, q1, q3]; (try simp (disch := omega) only [IntWalk.i64_in, IntWalk.u64_in, if_neg, if_pos])<;> rfl) ?_
            refine Run.o1 (by simp only [go_sem, gt_iff_lt, ge_iff_le, pick_max, Int.zero_sub, hb2, hr, hA, g1, g2, hk1, t1, t2, r1, r2, r3, r4, r5, hta, q1, q3] <;> rfl) ?_
            refine Run.nil ?_
            refine Exec.reg ?_
            iterate 3 (refine Run.o1 (by simp only [go_sem, gt_iff_lt, ge_iff_le, pick_max, Int.zero_sub, hb2, hr, hA, g1, g2, hk1, t1, t2, r1, r2, r3, r4, r5, hta, q1, q3] <;> rfl) ?_)
            refine Run.c1 (c_bill_Cost a day ((a.ds.getD m default).day - 1)) (by simp only [go_sem, gt_iff_lt, ge_iff_le, pick_max, Int.zero_sub, hb2, hr, hA, g1, g2, hk1, t1, t2, r1, r2, r3, r4, r5, hta, q1, q3] <;> rfl) (by simp only [go_sem, gt_iff_lt, ge_iff_le, pick_max, Int.zero_sub, hb2, hr, hA, g1, g2, hk1, t1, t2, r1, r2, r3, r4, r5, hta, q1, q3] <;> rfl) ?_
            iterate 5 (refine Run.o1 (by simp only [go_sem, gt_iff_lt, ge_iff_le, pick_max, Int.zero_sub, hb2, hr, hA, g1, g2, hk1, t1, t2, r1, r2, r3, r4, r5, hta, q1, q3] <;> rfl) ?_)
            refine Run.nil ?_
            refine Exec.reg ?_
            iterate 3 (refine Run.o1 (by simp only [go_sem, gt_iff_lt, ge_iff_le, pick_max, Int.zero_sub, hb2, hr, hA, g1, g2, hk1, t1, t2, r1, r2, r3, r4, r5, hta, q1, q3] <;> rfl) ?_)
            refine Run.c1 (c_bill_Cost (woD a m) day ((a.ds.getD m default).day - 1)) (by simp only [go_sem, gt_iff_lt, ge_iff_le, pick_max, Int.zero_sub, hb2, hr, hA, g1, g2, hk1, t1, t2, r1, r2, r3, r4, r5, hta, q1, q3] <;> rfl) (by simp only [go_sem, gt_iff_lt, ge_iff_le, pick_max, Int.zero_sub, hb2, hr, hA, g1, g2, hk1, t1, t2, r1, r2, r3, r4, r5, hta, q1, q3] <;> rfl) ?_
            iterate 5 (refine Run.o1 (by simp only [go_sem, gt_iff_lt, ge_iff_le, pick_max, Int.zero_sub, hb2, hr, hA, g1, g2, hk1, t1, t2, r1, r2, r3, r4, r5, hta, q1, q3] <;> rfl) ?_)
            refine Run.nil ?_
            refine Exec.assocS ?_
            refine Exec.reg ?_
            iterate 4 (refine Run.o1 (by simp only [go_sem, gt_iff_lt, ge_iff_le, pick_max, Int.zero_sub, hb2, hr, hA, g1, g2, hk1, t1, t2, r1, r2, r3, r4, r5, hta, q1, q3] <;> rfl) ?_)
            iterate 3 (refine Run.y1 (by simp only [go_sem, gt_iff_lt, ge_iff_le, pick_max, Int.zero_sub, hb2, hr, hA, g1, g2, hk1, t1, t2, r1, r2, r3, r4, r5, hta, q1, q3] <;> rfl) ?_)
            refine Run.o1 (by simp only [go_sem, gt_iff_lt, ge_iff_le, pick_max, Int.zero_sub, hb2, hr, hA, g1, g2, hk1, t1, t2, r1, r2, r3, r4, r5, hta, q1, q3] <;> rfl) ?_
            refine Run.nil ?_
            refine Exec.cndS (by simp only [go_sem, gt_iff_lt, ge_iff_le, pick_max, Int.zero_sub, hb2, hr, hA, g1, g2, hk1, t1, t2, r1, r2, r3, r4, r5, hta, q1, q3] <;> rfl) (fun hb157 => ?_) (fun hb157 => ?_)
            · exact absurd hb157 (by simp)
            · skip
              refine Exec.skipS ?_
              refine Exec.reg ?_
              iterate 5 (refine Run.o1 (by simp only [go_sem, gt_iff_lt, ge_iff_le, pick_max, Int.zero_sub, hb2, hr, hA, g1, g2, hk1, t1, t2, r1, r2, r3, r4, r5, hta, q1, q3] <;> rfl) ?_)
              refine Run.c1 (c_bill_Cost a (a.ds.getD m default).day (a.ds.getD m default).day) (by simp only [go_sem, gt_iff_lt, ge_iff_le, pick_max, Int.zero_sub, hb2, hr, hA, g1, g2, hk1, t1, t2, r1, r2, r3, r4, r5, hta, q1, q3] <;> rfl) (by simp only [go_sem, gt_iff_lt, ge_iff_le, pick_max, Int.zero_sub, hb2, hr, hA, g1, g2, hk1, t1, t2, r1, r2, r3, r4, r5, hta, q1, q3] <;> rfl) ?_
              iterate 5 (refine Run.o1 (by simp only [go_sem, gt_iff_lt, ge_iff_le, pick_max, Int.zero_sub, hb2, hr, hA, g1, g2, hk1, t1, t2, r1, r2, r3, r4, r5, hta, q1, q3] <;> rfl) ?_)
              refine Run.nil ?_
              refine Exec.reg ?_
              iterate 5 (refine Run.o1 (by simp only [go_sem, gt_iff_lt, ge_iff_le, pick_max, Int.zero_sub, hb2, hr, hA, g1, g2, hk1, t1, t2, r1, r2, r3, r4, r5, hta, q1, q3] <;> rfl) ?_)
              refine Run.c1 (c_bill_Cost (woD a m) (a.ds.getD m default).day (a.ds.getD m default).day) (by simp only [go_sem, gt_iff_lt, ge_iff_le, pick_max, Int.zero_sub, hb2, hr, hA, g1, g2, hk1, t1, t2, r1, r2, r3, r4, r5, hta, q1, q3] <;> rfl) (by simp only [go_sem, gt_iff_lt, ge_iff_le, pick_max, Int.zero_sub, hb2, hr, hA, g1, g2, hk1, t1, t2, r1, r2, r3, r4, r5, hta, q1, q3] <;> rfl) ?_
              iterate 5 (refine Run.o1 (by simp only [go_sem, gt_iff_lt, ge_iff_le, pick_max, Int.zero_sub, hb2, hr, hA, g1, g2, hk1, t1, t2, r1, r2, r3, r4, r5, hta, q1, q3] <;> rfl) ?_)
              refine Run.nil ?_
              refine Exec.reg ?_
              iterate 3 (refine Run.o1 (by simp only [go_sem, gt_iff_lt, ge_iff_le, pick_max, Int.zero_sub, hb2, hr, hA, g1, g2, hk1, t1, t2, r1, r2, r3, r4, r5, hta, q1, q3] <;> rfl) ?_)
              iterate 2 (refine Run.y1 (by simp only [go_sem, gt_iff_lt, ge_iff_le, pick_max, Int.zero_sub, hb2, hr, hA, g1, g2, hk1, t1, t2, r1, r2, r3, r4, r5, hta, q1, q3] <;> rfl) ?_)
              iterate 2 (refine Run.o1 (by simp only [go_sem, gt_iff_lt, ge_iff_le, pick_max, Int.zero_sub, hb2, hr, hA, g1, g2, hk1, t1, t2, r1, r2, r3, r4, r5, hta, q1, q3] <;> rfl) ?_)
              iterate 2 (refine Run.y1 (by simp only [go_sem, gt_iff_lt, ge_iff_le, pick_max, Int.zero_sub, hb2, hr, hA, g1, g2, hk1, t1, t2, r1, r2, r3, r4, r5, hta, q1, q3] <;> rfl) ?_)
              refine Run.y1 (by simp only [go_sem, gt_iff_lt, ge_iff_le, pick_max, Int.zero_sub, hb2, hr, hA, g1, g2, hk1, t1, t2, r1, r2, r3, r4, r5, hta, q1, q3]; (try simp (disch := omega) only [IntWalk.i64_in, IntWalk.u64_in, if_neg, if_pos])<;> rfl) ?_
              iterate 2 (refine Run.y1 (by simp only [go_sem, gt_iff_lt, ge_iff_le, pick_max, Int.zero_sub, hb2, hr, hA, g1, g2, hk1, t1, t2, r1, r2, r3, r4, r5, hta, q1, q3] <;> rfl) ?_)
              iterate 2 (refine Run.o1 (by simp only [go_sem, gt_iff_lt, ge_iff_le, pick_max, Int.zero_sub, hb2, hr, hA, g1, g2, hk1, t1, t2, r1, r2, r3, r4, r5, hta, q1, q3] <;> rfl) ?_)
              refine Run.calw (by simp only [go_sem] <;> rfl) (c_law_awake) (by simp only [go_sem]) (by simp only [go_sem, gt_iff_lt, ge_iff_le, pick_max, Int.zero_sub, hb2, hr, hA, g1, g2, hk1, t1, t2, r1, r2, r3, r4, r5, hta, q1, q3] <;> rfl) (by simp only [go_sem, gt_iff_lt, ge_iff_le, pick_max, Int.zero_sub, hb2, hr, hA, g1, g2, hk1, t1, t2, r1, r2, r3, r4, r5, hta, q1, q3] <;> rfl) (by exact trivial) (fr0) (by simp only [go_sem, gt_iff_lt, ge_iff_le, pick_max, Int.zero_sub, hb2, hr, hA, g1, g2, hk1, t1, t2, r1, r2, r3, r4, r5, hta, q1, q3] <;> rfl) ?_
              iterate 2 (refine Run.o1 (by simp only [go_sem, gt_iff_lt, ge_iff_le, pick_max, Int.zero_sub, hb2, hr, hA, g1, g2, hk1, t1, t2, r1, r2, r3, r4, r5, hta, q1, q3] <;> rfl) ?_)
              refine Run.nil ?_
              exact Ends.fin [] (rs := [.tmp 6]) rfl (by simp only [go_sem, gt_iff_lt, ge_iff_le, pick_max, Int.zero_sub, hb2, hr, hA, g1, g2, hk1, t1, t2, r1, r2, r3, r4, r5, hta, q1, q3] <;> rfl) (by simp only [go_sem, gt_iff_lt, ge_iff_le, pick_max, Int.zero_sub, hb2, hr, hA, g1, g2, hk1, t1, t2, r1, r2, r3, r4, r5, hta, q1, q3] <;> first | rfl | exact eqz)
        · skip
          have hu : uph (a.ds.getD m default) = true := decide_eq_true (by have := of_decide_eq_false hb81; omega)
          have hye := settle_yes v hm hu (Int.le_refl _) ho hdd
          refine Exec.assocS ?_
          by_cases he : 0 < (a.ds.getD m default).err
          · skip
            have g1 : decide (0 < (a.ds.getD m default).err) = true := decide_eq_true he
            have g2 : decide (0 < cost a (a.ds.getD m default).day (-1) (a.ds.getD m default).day - cost a (a.ds.getD m default).day m (a.ds.getD m default).day) = false := decide_eq_false (by have := hye.1 he; omega)
            have g3 : decide ((a.ds.getD m default).err < 0) = false := decide_eq_false (by omega)
            refine Exec.reg ?_
            iterate 4 (refine Run.o1 (by simp only [go_sem, gt_iff_lt, ge_iff_le, pick_max, Int.zero_sub, hb2, hr, hA, g1, g2, hk1, t1, t2, r1, r2, r3, r4, r5, hta, g1, g2, g3] <;> rfl) ?_)
            iterate 2 (refine Run.y1 (by simp only [go_sem, gt_iff_lt, ge_iff_le, pick_max, Int.zero_sub, hb2, hr, hA, g1, g2, hk1, t1, t2, r1, r2, r3, r4, r5, hta, g1, g2, g3] <;> rfl) ?_)
            iterate 2 (refine Run.o1 (by simp only [go_sem, gt_iff_lt, ge_iff_le, pick_max, Int.zero_sub, hb2, hr, hA, g1, g2, hk1, t1, t2, r1, r2, r3, r4, r5, hta, g1, g2, g3] <;> rfl) ?_)
            iterate 4 (refine Run.y1 (by simp only [go_sem, gt_iff_lt, ge_iff_le, pick_max, Int.zero_sub, hb2, hr, hA, g1, g2, hk1, t1, t2, r1, r2, r3, r4, r5, hta, g1, g2, g3] <;> rfl) ?_)
            iterate 2 (refine Run.s ?_)
            refine Run.y1 (by simp only [go_sem, gt_iff_lt, ge_iff_le, pick_max, Int.zero_sub, hb2, hr, hA, g1, g2, hk1, t1, t2, r1, r2, r3, r4, r5, hta, g1, g2, g3] <;> rfl) ?_
            refine Run.o1 (by simp only [go_sem, gt_iff_lt, ge_iff_le, pick_max, Int.zero_sub, hb2, hr, hA, g1, g2, hk1, t1, t2, r1, r2, r3, r4, r5, hta, g1, g2, g3] <;> rfl) ?_
            refine Run.nil ?_
            refine Exec.cndS (by simp only [go_sem, gt_iff_lt, ge_iff_le, pick_max, Int.zero_sub, hb2, hr, hA, g1, g2, hk1, t1, t2, r1, r2, r3, r4, r5, hta, g1, g2, g3] <;> rfl) (fun hb132 => ?_) (fun hb132 => ?_)
            · exact absurd hb132 (by simp)
            · skip
              refine Exec.skipS ?_
              refine Exec.reg ?_
              iterate 2 (refine Run.o1 (by simp only [go_sem, gt_iff_lt, ge_iff_le, pick_max, Int.zero_sub, hb2, hr, hA, g1, g2, hk1, t1, t2, r1, r2, r3, r4, r5, hta, g1, g2, g3] <;> rfl) ?_)
              refine Run.o1 (by simp only [go_sem, gt_iff_lt, ge_iff_le, pick_max, Int.zero_sub, hb2, hr, hA, g1, g2, hk1, t1, t2, r1, r2, r3, r4, r5, hta, g1, g2, g3]; (try simp (disch := omega) only [IntWalk.i64_in, IntWalk.u64_in, if_neg, if_pos])<;> rfl) ?_
              refine Run.o1 (by simp only [go_sem, gt_iff_lt, ge_iff_le, pick_max, Int.zero_sub, hb2, hr, hA, g1, g2, hk1, t1, t2, r1, r2, r3, r4, r5, hta, g1, g2, g3] <;> rfl) ?_
              refine Run.nil ?_
              refine Exec.reg ?_
              iterate 3 (refine Run.o1 (by simp only [go_sem, gt_iff_lt, ge_iff_le, pick_max, Int.zero_sub, hb2, hr, hA, g1, g2, hk1, t1, t2, r1, r2, r3, r4, r5, hta, g1, g2, g3] <;> rfl) ?_)
              refine Run.c1 (c_bill_Cost a day ((a.ds.getD m default).day - 1)) (by simp only [go_sem, gt_iff_lt, ge_iff_le, pick_max, Int.zero_sub, hb2, hr, hA, g1, g2, hk1, t1, t2, r1, r2, r3, r4, r5, hta, g1, g2, g3] <;> rfl) (by simp only [go_sem, gt_iff_lt, ge_iff_le, pick_max, Int.zero_sub, hb2, hr, hA, g1, g2, hk1, t1, t2, r1, r2, r3, r4, r5, hta, g1, g2, g3] <;> rfl) ?_
              iterate 5 (refine Run.o1 (by simp only [go_sem, gt_iff_lt, ge_iff_le, pick_max, Int.zero_sub, hb2, hr, hA, g1, g2, hk1, t1, t2, r1, r2, r3, r4, r5, hta, g1, g2, g3] <;> rfl) ?_)
              refine Run.nil ?_
              refine Exec.reg ?_
              iterate 3 (refine Run.o1 (by simp only [go_sem, gt_iff_lt, ge_iff_le, pick_max, Int.zero_sub, hb2, hr, hA, g1, g2, hk1, t1, t2, r1, r2, r3, r4, r5, hta, g1, g2, g3] <;> rfl) ?_)
              refine Run.c1 (c_bill_Cost (woD a m) day ((a.ds.getD m default).day - 1)) (by simp only [go_sem, gt_iff_lt, ge_iff_le, pick_max, Int.zero_sub, hb2, hr, hA, g1, g2, hk1, t1, t2, r1, r2, r3, r4, r5, hta, g1, g2, g3] <;> rfl) (by simp only [go_sem, gt_iff_lt, ge_iff_le, pick_max, Int.zero_sub, hb2, hr, hA, g1, g2, hk1, t1, t2, r1, r2, r3, r4, r5, hta, g1, g2, g3] <;> rfl) ?_
              iterate 5 (refine Run.o1 (by simp only [go_sem, gt_iff_lt, ge_iff_le, pick_max, Int.zero_sub, hb2, hr, hA, g1, g2, hk1, t1, t2, r1, r2, r3, r4, r5, hta, g1, g2, g3] <;> rfl) ?_)
              refine Run.nil ?_
              refine Exec.assocS ?_
              refine Exec.reg ?_
              iterate 4 (refine Run.o1 (by simp only [go_sem, gt_iff_lt, ge_iff_le, pick_max, Int.zero_sub, hb2, hr, hA, g1, g2, hk1, t1, t2, r1, r2, r3, r4, r5, hta, g1, g2, g3] <;> rfl) ?_)
              iterate 3 (refine Run.y1 (by simp only [go_sem, gt_iff_lt, ge_iff_le, pick_max, Int.zero_sub, hb2, hr, hA, g1, g2, hk1, t1, t2, r1, r2, r3, r4, r5, hta, g1, g2, g3] <;> rfl) ?_)
              refine Run.o1 (by simp only [go_sem, gt_iff_lt, ge_iff_le, pick_max, Int.zero_sub, hb2, hr, hA, g1, g2, hk1, t1, t2, r1, r2, r3, r4, r5, hta, g1, g2, g3] <;> rfl) ?_
              refine Run.nil ?_
              refine Exec.cndS (by simp only [go_sem, gt_iff_lt, ge_iff_le, pick_max, Int.zero_sub, hb2, hr, hA, g1, g2, hk1, t1, t2, r1, r2, r3, r4, r5, hta, g1, g2, g3] <;> rfl) (fun hb157 => ?_) (fun hb157 => ?_)
              · exact absurd hb157 (by simp)
              · skip
                refine Exec.skipS ?_
                refine Exec.reg ?_
                iterate 5 (refine Run.o1 (by simp only [go_sem, gt_iff_lt, ge_iff_le, pick_max, Int.zero_sub, hb2, hr, hA, g1, g2, hk1, t1, t2, r1, r2, r3, r4, r5, hta, g1, g2, g3] <;> rfl) ?_)
                refine Run.c1 (c_bill_Cost a (a.ds.getD m default).day (a.ds.getD m default).day) (by simp only [go_sem, gt_iff_lt, ge_iff_le, pick_max, Int.zero_sub, hb2, hr, hA, g1, g2, hk1, t1, t2, r1, r2, r3, r4, r5, hta, g1, g2, g3] <;> rfl) (by simp only [go_sem, gt_iff_lt, ge_iff_le, pick_max, Int.zero_sub, hb2, hr, hA, g1, g2, hk1, t1, t2, r1, r2, r3, r4, r5, hta, g1, g2, g3] <;> rfl) ?_
                iterate 5 (refine Run.o1 (by simp only [go_sem, gt_iff_lt, ge_iff_le, pick_max, Int.zero_sub, hb2, hr, hA, g1, g2, hk1, t1, t2, r1, r2, r3, r4, r5, hta, g1, g2, g3] <;> rfl) ?_)
                refine Run.nil ?_
                refine Exec.reg ?_
                iterate 5 (refine Run.o1 (by simp only [go_sem, gt_iff_lt, ge_iff_le, pick_max, Int.zero_sub, hb2, hr, hA, g1, g2, hk1, t1, t2, r1, r2, r3, r4, r5, hta, g1, g2, g3] <;> rfl) ?_)
                refine Run.c1 (c_bill_Cost (woD a m) (a.ds.getD m default).day (a.ds.getD m default).day) (by simp only [go_sem, gt_iff_lt, ge_iff_le, pick_max, Int.zero_sub, hb2, hr, hA, g1, g2, hk1, t1, t2, r1, r2, r3, r4, r5, hta, g1, g2, g3] <;> rfl) (by simp only [go_sem, gt_iff_lt, ge_iff_le, pick_max, Int.zero_sub, hb2, hr, hA, g1, g2, hk1, t1, t2, r1, r2, r3, r4, r5, hta, g1, g2, g3] <;> rfl) ?_
                iterate 5 (refine Run.o1 (by simp only [go_sem, gt_iff_lt, ge_iff_le, pick_max, Int.zero_sub, hb2, hr, hA, g1, g2, hk1, t1, t2, r1, r2, r3, r4, r5, hta, g1, g2, g3] <;> rfl) ?_)
                refine Run.nil ?_
                refine Exec.reg ?_
                iterate 3 (refine Run.o1 (by simp only [go_sem, gt_iff_lt, ge_iff_le, pick_max, Int.zero_sub, hb2, hr, hA, g1, g2, hk1, t1, t2, r1, r2, r3, r4, r5, hta, g1, g2, g3] <;> rfl) ?_)
                iterate 2 (refine Run.y1 (by simp only [go_sem, gt_iff_lt, ge_iff_le, pick_max, Int.zero_sub, hb2, hr, hA, g1, g2, hk1, t1, t2, r1, r2, r3, r4, r5, hta, g1, g2, g3] <;> rfl) ?_)
                iterate 2 (refine Run.o1 (by simp only [go_sem, gt_iff_lt, ge_iff_le, pick_max, Int.zero_sub, hb2, hr, hA, g1, g2, hk1, t1, t2, r1, r2, r3, r4, r5, hta, g1, g2, g3] <;> rfl) ?_)
                iterate 2 (refine Run.y1 (by simp only [go_sem, gt_iff_lt, ge_iff_le, pick_max, Int.zero_sub, hb2, hr, hA, g1, g2, hk1, t1, t2, r1, r2, r3, r4, r5, hta, g1, g2, g3] <;> rfl) ?_)
                refine Run.y1 (by simp only [go_sem, gt_iff_lt, ge_iff_le, pick_max, Int.zero_sub, hb2, hr, hA, g1, g2, hk1, t1, t2, r1, r2, r3, r4, r5, hta, g1, g2, g3]; (try simp (disch := omega) only [IntWalk.i64_in, IntWalk.u64_in, if_neg, if_pos])<;> rfl) ?_
                iterate 2 (refine Run.y1 (by simp only [go_sem, gt_iff_lt, ge_iff_le, pick_max, Int.zero_sub, hb2, hr, hA, g1, g2, hk1, t1, t2, r1, r2, r3, r4, r5, hta, g1, g2, g3] <;> rfl) ?_)
                iterate 2 (refine Run.o1 (by simp only [go_sem, gt_iff_lt, ge_iff_le, pick_max, Int.zero_sub, hb2, hr, hA, g1, g2, hk1, t1, t2, r1, r2, r3, r4, r5, hta, g1, g2, g3] <;> rfl) ?_)
                refine Run.calw (by simp only [go_sem] <;> rfl) (c_law_awake) (by simp only [go_sem]) (by simp only [go_sem, gt_iff_lt, ge_iff_le, pick_max, Int.zero_sub, hb2, hr, hA, g1, g2, hk1, t1, t2, r1, r2, r3, r4, r5, hta, g1, g2, g3] <;> rfl) (by simp only [go_sem, gt_iff_lt, ge_iff_le, pick_max, Int.zero_sub, hb2, hr, hA, g1, g2, hk1, t1, t2, r1, r2, r3, r4, r5, hta, g1, g2, g3] <;> rfl) (by exact trivial) (fr0) (by simp only [go_sem, gt_iff_lt, ge_iff_le, pick_max, Int.zero_sub, hb2, hr, hA, g1, g2, hk1, t1, t2, r1, r2, r3, r4, r5, hta, g1, g2, g3] <;> rfl) ?_
                iterate 2 (refine Run.o1 (by simp only [go_sem, gt_iff_lt, ge_iff_le, pick_max, Int.zero_sub, hb2, hr, hA, g1, g2, hk1, t1, t2, r1, r2, r3, r4, r5, hta, g1, g2, g3] <;> rfl) ?_)
                refine Run.nil ?_
                exact Ends.fin [] (rs := [.tmp 6]) rfl (by simp only [go_sem, gt_iff_lt, ge_iff_le, pick_max, Int.zero_sub, hb2, hr, hA, g1, g2, hk1, t1, t2, r1, r2, r3, r4, r5, hta, g1, g2, g3] <;> rfl) (by simp only [go_sem, gt_iff_lt, ge_iff_le, pick_max, Int.zero_sub, hb2, hr, hA, g1, g2, hk1, t1, t2, r1, r2, r3, r4, r5, hta, g1, g2, g3] <;> first | rfl | exact eqz)
          · skip
            have g1 : decide (0 < (a.ds.getD m default).err) = false := decide_eq_false he
            by_cases hn : (a.ds.getD m default).err < 0
            · skip
              have g3 : decide ((a.ds.getD m default).err < 0) = true := decide_eq_true hn
              have g2 : decide (cost a (a.ds.getD m default).day (-1) (a.ds.getD m default).day - cost a (a.ds.getD m default).day m (a.ds.getD m default).day < 0) = false := decide_eq_false (by have := hye.2 hn; omega)
              refine Exec.reg ?_
              iterate 4 (refine Run.o1 (by simp only [go_sem, gt_iff_lt, ge_iff_le, pick_max, Int.zero_sub, hb2, hr, hA, g1, g2, hk1, t1, t2, r1, r2, r3, r4, r5, hta, g1, g2, g3] <;> rfl) ?_)
              iterate 2 (refine Run.s ?_)
              iterate 2 (refine Run.o1 (by simp only [go_sem, gt_iff_lt, ge_iff_le, pick_max, Int.zero_sub, hb2, hr, hA, g1, g2, hk1, t1, t2, r1, r2, r3, r4, r5, hta, g1, g2, g3] <;> rfl) ?_)
              iterate 7 (refine Run.y1 (by simp only [go_sem, gt_iff_lt, ge_iff_le, pick_max, Int.zero_sub, hb2, hr, hA, g1, g2, hk1, t1, t2, r1, r2, r3, r4, r5, hta, g1, g2, g3] <;> rfl) ?_)
              refine Run.o1 (by simp only [go_sem, gt_iff_lt, ge_iff_le, pick_max, Int.zero_sub, hb2, hr, hA, g1, g2, hk1, t1, t2, r1, r2, r3, r4, r5, hta, g1, g2, g3] <;> rfl) ?_
              refine Run.nil ?_
              refine Exec.cndS (by simp only [go_sem, gt_iff_lt, ge_iff_le, pick_max, Int.zero_sub, hb2, hr, hA, g1, g2, hk1, t1, t2, r1, r2, r3, r4, r5, hta, g1, g2, g3] <;> rfl) (fun hb132 => ?_) (fun hb132 => ?_)
              · exact absurd hb132 (by simp)
              · skip
                refine Exec.skipS ?_
                refine Exec.reg ?_
                iterate 2 (refine Run.o1 (by simp only [go_sem, gt_iff_lt, ge_iff_le, pick_max, Int.zero_sub, hb2, hr, hA, g1, g2, hk1, t1, t2, r1, r2, r3, r4, r5, hta, g1, g2, g3] <;> rfl) ?_)
                refine Run.o1 (by simp only [go_sem, gt_iff_lt, ge_iff_le, pick_max, Int.zero_sub, hb2, hr, hA, g1, g2, hk1, t1, t2, r1, r2, r3, r4, r5, hta, g1, g2, g3]; (try simp (disch := omega) only [IntWalk.i64_in, IntWalk.u64_in, if_neg, if_pos])<;> rfl) ?_
                refine Run.o1 (by simp only [go_sem, gt_iff_lt, ge_iff_le, pick_max, Int.zero_sub, hb2, hr, hA, g1, g2, hk1, t1, t2, r1, r2, r3, r4, r5, hta, g1, g2, g3] <;> rfl) ?_
                refine Run.nil ?_
                refine Exec.reg ?_
                iterate 3 (refine Run.o1 (by simp only [go_sem, gt_iff_lt, ge_iff_le, pick_max, Int.zero_sub, hb2, hr, hA, g1, g2, hk1, t1, t2, r1, r2, r3, r4, r5, hta, g1, g2, g3] <;> rfl) ?_)
                refine Run.c1 (c_bill_Cost a day ((a.ds.getD m default).day - 1)) (by simp only [go_sem, gt_iff_lt, ge_iff_le, pick_max, Int.zero_sub, hb2, hr, hA, g1, g2, hk1, t1, t2, r1, r2, r3, r4, r5, hta, g1, g2, g3] <;> rfl) (by simp only [go_sem, gt_iff_lt, ge_iff_le, pick_max, Int.zero_sub, hb2, hr, hA, g1, g2, hk1, t1, t2, r1, r2, r3, r4, r5, hta, g1, g2, g3] <;> rfl) ?_
                iterate 5 (refine Run.o1 (by simp only [go_sem, gt_iff_lt, ge_iff_le, pick_max, Int.zero_sub, hb2, hr, hA, g1, g2, hk1, t1, t2, r1, r2, r3, r4, r5, hta, g1, g2, g3] <;> rfl) ?_)
                refine Run.nil ?_
                refine Exec.reg ?_
                iterate 3 (refine Run.o1 (by simp only [go_sem, gt_iff_lt, ge_iff_le, pick_max, Int.zero_sub, hb2, hr, hA, g1, g2, hk1, t1, t2, r1, r2, r3, r4, r5, hta, g1, g2, g3] <;> rfl) ?_)
                refine Run.c1 (c_bill_Cost (woD a m) day ((a.ds.getD m default).day - 1)) (by simp only [go_sem, gt_iff_lt, ge_iff_le, pick_max, Int.zero_sub, hb2, hr, hA, g1, g2, hk1, t1, t2, r1, r2, r3, r4, r5, hta, g1, g2, g3] <;> rfl) (by simp only [go_sem, gt_iff_lt, ge_iff_le, pick_max, Int.zero_sub, hb2, hr, hA, g1, g2, hk1, t1, t2, r1, r2, r3, r4, r5, hta, g1, g2, g3] <;> rfl) ?_
                iterate 5 (refine Run.o1 (by simp only [go_sem, gt_iff_lt, ge_iff_le, pick_max, Int.zero_sub, hb2, hr, hA, g1, g2, hk1, t1, t2, r1, r2, r3, r4, r5, hta, g1, g2, g3] <;> rfl) ?_)
                refine Run.nil ?_
                refine Exec.assocS ?_
                refine Exec.reg ?_
                iterate 4 (refine Run.o1 (by simp only [go_sem, gt_iff_lt, ge_iff_le, pick_max, Int.zero_sub, hb2, hr, hA, g1, g2, hk1, t1, t2, r1, r2, r3, r4, r5, hta, g1, g2, g3] <;> rfl) ?_)
                iterate 3 (refine Run.y1 (by simp only [go_sem, gt_iff_lt, ge_iff_le, pick_max, Int.zero_sub, hb2, hr, hA, g1, g2, hk1, t1, t2, r1, r2, r3, r4, r5, hta, g1, g2, g3] <;> rfl) ?_)
                refine Run.o1 (by simp only [go_sem, gt_iff_lt, ge_iff_le, pick_max, Int.zero_sub, hb2, hr, hA, g1, g2, hk1, t1, t2, r1, r2, r3, r4, r5, hta, g1, g2, g3] <;> rfl) ?_
                refine Run.nil ?_
                refine Exec.cndS (by simp only [go_sem, gt_iff_lt, ge_iff_le, pick_max, Int.zero_sub, hb2, hr, hA, g1, g2, hk1, t1, t2, r1, r2, r3, r4, r5, hta, g1, g2, g3] <;> rfl) (fun hb157 => ?_) (fun hb157 => ?_)
                · exact absurd hb157 (by simp)
                · skip
                  refine Exec.skipS ?_
                  refine Exec.reg ?_
                  iterate 5 (refine Run.o1 (by simp only [go_sem, gt_iff_lt, ge_iff_le, pick_max, Int.zero_sub, hb2, hr, hA, g1, g2, hk1, t1, t2, r1, r2, r3, r4, r5, hta, g1, g2, g3] <;> rfl) ?_)
                  refine Run.c1 (c_bill_Cost a (a.ds.getD m default).day (a.ds.getD m default).day) (by simp only [go_sem, gt_iff_lt, ge_iff_le, pick_max, Int.zero_sub, hb2, hr, hA, g1, g2, hk1, t1, t2, r1, r2, r3, r4, r5, hta, g1, g2, g3] <;> rfl) (by simp only [go_sem, gt_iff_lt, ge_iff_le, pick_max, Int.zero_sub, hb2, hr, hA, g1, g2, hk1, t1, t2, r1, r2, r3, r4, r5, hta, g1, g2, g3] <;> rfl) ?_
                  iterate 5 (refine Run.o1 (by simp only [go_sem, gt_iff_lt, ge_iff_le, pick_max, Int.zero_sub, hb2, hr, hA, g1, g2, hk1, t1, t2, r1, r2, r3, r4, r5, hta, g1, g2, g3] <;> rfl) ?_)
                  refine Run.nil ?_
                  refine Exec.reg ?_
                  iterate 5 (refine Run.o1 (by simp only [go_sem, gt_iff_lt, ge_iff_le, pick_max, Int.zero_sub, hb2, hr, hA, g1, g2, hk1, t1, t2, r1, r2, r3, r4, r5, hta, g1, g2, g3] <;> rfl) ?_)
                  refine Run.c1 (c_bill_Cost (woD a m) (a.ds.getD m default).day (a.ds.getD m default).day) (by simp only [go_sem, gt_iff_lt, ge_iff_le, pick_max, Int.zero_sub, hb2, hr, hA, g1, g2, hk1, t1, t2, r1, r2, r3, r4, r5, hta, g1, g2, g3] <;> rfl) (by simp only [go_sem, gt_iff_lt, ge_iff_le, pick_max, Int.zero_sub, hb2, hr, hA, g1, g2, hk1, t1, t2, r1, r2, r3, r4, r5, hta, g1, g2, g3] <;> rfl) ?_
                  iterate 5 (refine Run.o1 (by simp only [go_sem, gt_iff_lt, ge_iff_le, pick_max, Int.zero_sub, hb2, hr, hA, g1, g2, hk1, t1, t2, r1, r2, r3, r4, r5, hta, g1, g2, g3] <;> rfl) ?_)
                  refine Run.nil ?_
                  refine Exec.reg ?_
                  iterate 3 (refine Run.o1 (by simp only [go_sem, gt_iff_lt, ge_iff_le, pick_max, Int.zero_sub, hb2, hr, hA, g1, g2, hk1, t1, t2, r1, r2, r3, r4, r5, hta, g1, g2, g3] <;> rfl) ?_)
                  iterate 2 (refine Run.y1 (by simp only [go_sem, gt_iff_lt, ge_iff_le, pick_max, Int.zero_sub, hb2, hr, hA, g1, g2, hk1, t1, t2, r1, r2, r3, r4, r5, hta, g1, g2, g3] <;> rfl) ?_)
                  iterate 2 (refine Run.o1 (by simp only [go_sem, gt_iff_lt, ge_iff_le, pick_max, Int.zero_sub, hb2, hr, hA, g1, g2, hk1, t1, t2, r1, r2, r3, r4, r5, hta, g1, g2, g3] <;> rfl) ?_)
                  iterate 2 (refine Run.y1 (by simp only [go_sem, gt_iff_lt, ge_iff_le, pick_max, Int.zero_sub, hb2, hr, hA, g1, g2, hk1, t1, t2, r1, r2, r3, r4, r5, hta, g1, g2, g3] <;> rfl) ?_)
                  refine Run.y1 (by simp only [go_sem, gt_iff_lt, ge_iff_le, pick_max, Int.zero_sub, hb2, hr, hA, g1, g2, hk1, t1, t2, r1, r2, r3, r4, r5, hta, g1, g2, g3]; (try simp (disch := omega) only [IntWalk.i64_in, IntWalk.u64_in, if_neg, if_pos])<;> rfl) ?_
                  iterate 2 (refine Run.y1 (by simp only [go_sem, gt_iff_lt, ge_iff_le, pick_max, Int.zero_sub, hb2, hr, hA, g1, g2, hk1, t1, t2, r1, r2, r3, r4, r5, hta, g1, g2, g3] <;> rfl) ?_)
                  iterate 2 (refine Run.o1 (by simp only [go_sem, gt_iff_lt, ge_iff_le, pick_max, Int.zero_sub, hb2, hr, hA, g1, g2, hk1, t1, t2, r1, r2, r3, r4, r5, hta, g1, g2, g3] <;> rfl) ?_)
                  refine Run.calw (by simp only [go_sem] <;> rfl) (c_law_awake) (by simp only [go_sem]) (by simp only [go_sem, gt_iff_lt, ge_iff_le, pick_max, Int.zero_sub, hb2, hr, hA, g1, g2, hk1, t1, t2, r1, r2, r3, r4, r5, hta, g1, g2, g3] <;> rfl) (by simp only [go_sem, gt_iff_lt, ge_iff_le, pick_max, Int.zero_sub, hb2, hr, hA, g1, g2, hk1, t1, t2, r1, r2, r3, r4, r5, hta, g1, g2, g3] <;> rfl) (by exact trivial) (fr0) (by simp only [go_sem, gt_iff_lt, ge_iff_le, pick_max, Int.zero_sub, hb2, hr, hA, g1, g2, hk1, t1, t2, r1, r2, r3, r4, r5, hta, g1, g2, g3] <;> rfl) ?_
                  iterate 2 (refine Run.o1 (by simp only [go_sem, gt_iff_lt, ge_iff_le, pick_max, Int.zero_sub, hb2, hr, hA, g1, g2, hk1, t1, t2, r1, r2, r3, r4, r5, hta, g1, g2, g3] <;> rfl) ?_)
                  refine Run.nil ?_
                  exact Ends.fin [] (rs := [.tmp 6]) rfl (by simp only [go_sem, gt_iff_lt, ge_iff_le, pick_max, Int.zero_sub, hb2, hr, hA, g1, g2, hk1, t1, t2, r1, r2, r3, r4, r5, hta, g1, g2, g3] <;> rfl) (by simp only [go_sem, gt_iff_lt, ge_iff_le, pick_max, Int.zero_sub, hb2, hr, hA, g1, g2, hk1, t1, t2, r1, r2, r3, r4, r5, hta, g1, g2, g3] <;> first | rfl | exact eqz)
            · skip
              have g3 : decide ((a.ds.getD m default).err < 0) = false := decide_eq_false hn
              refine Exec.reg ?_
              iterate 4 (refine Run.o1 (by simp only [go_sem, gt_iff_lt, ge_iff_le, pick_max, Int.zero_sub, hb2, hr, hA, g1, g2, hk1, t1, t2, r1, r2, r3, r4, r5, hta, g1, g3] <;> rfl) ?_)
              iterate 2 (refine Run.s ?_)
              iterate 2 (refine Run.o1 (by simp only [go_sem, gt_iff_lt, ge_iff_le, pick_max, Int.zero_sub, hb2, hr, hA, g1, g2, hk1, t1, t2, r1, r2, r3, r4, r5, hta, g1, g3] <;> rfl) ?_)
              iterate 4 (refine Run.y1 (by simp only [go_sem, gt_iff_lt, ge_iff_le, pick_max, Int.zero_sub, hb2, hr, hA, g1, g2, hk1, t1, t2, r1, r2, r3, r4, r5, hta, g1, g3] <;> rfl) ?_)
              iterate 2 (refine Run.s ?_)
              refine Run.y1 (by simp only [go_sem, gt_iff_lt, ge_iff_le, pick_max, Int.zero_sub, hb2, hr, hA, g1, g2, hk1, t1, t2, r1, r2, r3, r4, r5, hta, g1, g3] <;> rfl) ?_
              refine Run.o1 (by simp only [go_sem, gt_iff_lt, ge_iff_le, pick_max, Int.zero_sub, hb2, hr, hA, g1, g2, hk1, t1, t2, r1, r2, r3, r4, r5, hta, g1, g3] <;> rfl) ?_
              refine Run.nil ?_
              refine Exec.cndS (by simp only [go_sem, gt_iff_lt, ge_iff_le, pick_max, Int.zero_sub, hb2, hr, hA, g1, g2, hk1, t1, t2, r1, r2, r3, r4, r5, hta, g1, g3] <;> rfl) (fun hb132 => ?_) (fun hb132 => ?_)
              · exact absurd hb132 (by simp)
              · skip
                refine Exec.skipS ?_
                refine Exec.reg ?_
                iterate 2 (refine Run.o1 (by simp only [go_sem, gt_iff_lt, ge_iff_le, pick_max, Int.zero_sub, hb2, hr, hA, g1, g2, hk1, t1, t2, r1, r2, r3, r4, r5, hta, g1, g3] <;> rfl) ?_)
                refine Run.o1 (by simp only [go_sem, gt_iff_lt, ge_iff_le, pick_max, Int.zero_sub, hb2, hr, hA, g1, g2, hk1, t1, t2, r1, r2, r3, r4, r5, hta, g1, g3]; (try simp (disch := omega) only [IntWalk.i64_in, IntWalk.u64_in, if_neg, if_pos])<;> rfl) ?_
                refine Run.o1 (by simp only [go_sem, gt_iff_lt, ge_iff_le, pick_max, Int.zero_sub, hb2, hr, hA, g1, g2, hk1, t1, t2, r1, r2, r3, r4, r5, hta, g1, g3] <;> rfl) ?_
                refine Run.nil ?_
                refine Exec.reg ?_
                iterate 3 (refine Run.o1 (by simp only [go_sem, gt_iff_lt, ge_iff_le, pick_max, Int.zero_sub, hb2, hr, hA, g1, g2, hk1, t1, t2, r1, r2, r3, r4, r5, hta, g1, g3] <;> rfl) ?_)
                refine Run.c1 (c_bill_Cost a day ((a.ds.getD m default).day - 1)) (by simp only [go_sem, gt_iff_lt, ge_iff_le, pick_max, Int.zero_sub, hb2, hr, hA, g1, g2, hk1, t1, t2, r1, r2, r3, r4, r5, hta, g1, g3] <;> rfl) (by simp only [go_sem, gt_iff_lt, ge_iff_le, pick_max, Int.zero_sub, hb2, hr, hA, g1, g2, hk1, t1, t2, r1, r2, r3, r4, r5, hta, g1, g3] <;> rfl) ?_
                iterate 5 (refine Run.o1 (by simp only [go_sem, gt_iff_lt, ge_iff_le, pick_max, Int.zero_sub, hb2, hr, hA, g1, g2, hk1, t1, t2, r1, r2, r3, r4, r5, hta, g1, g3] <;> rfl) ?_)
                refine Run.nil ?_
                refine Exec.reg ?_
                iterate 3 (refine Run.o1 (by simp only [go_sem, gt_iff_lt, ge_iff_le, pick_max, Int.zero_sub, hb2, hr, hA, g1, g2, hk1, t1, t2, r1, r2, r3, r4, r5, hta, g1, g3] <;> rfl) ?_)
                refine Run.c1 (c_bill_Cost (woD a m) day ((a.ds.getD m default).day - 1)) (by simp only [go_sem, gt_iff_lt, ge_iff_le, pick_max, Int.zero_sub, hb2, hr, hA, g1, g2, hk1, t1, t2, r1, r2, r3, r4, r5, hta, g1, g3] <;> rfl) (by simp only [go_sem, gt_iff_lt, ge_iff_le, pick_max, Int.zero_sub, hb2, hr, hA, g1, g2, hk1, t1, t2, r1, r2, r3, r4, r5, hta, g1, g3] <;> rfl) ?_
                iterate 5 (refine Run.o1 (by simp only [go_sem, gt_iff_lt, ge_iff_le, pick_max, Int.zero_sub, hb2, hr, hA, g1, g2, hk1, t1, t2, r1, r2, r3, r4, r5, hta, g1, g3] <;> rfl) ?_)
                refine Run.nil ?_
                refine Exec.assocS ?_
                refine Exec.reg ?_
                iterate 4 (refine Run.o1 (by simp only [go_sem, gt_iff_lt, ge_iff_le, pick_max, Int.zero_sub, hb2, hr, hA, g1, g2, hk1, t1, t2, r1, r2, r3, r4, r5, hta, g1, g3] <;> rfl) ?_)
                iterate 3 (refine Run.y1 (by simp only [go_sem, gt_iff_lt, ge_iff_le, pick_max, Int.zero_sub, hb2, hr, hA, g1, g2, hk1, t1, t2, r1, r2, r3, r4, r5, hta, g1, g3] <;> rfl) ?_)
                refine Run.o1 (by simp only [go_sem, gt_iff_lt, ge_iff_le, pick_max, Int.zero_sub, hb2, hr, hA, g1, g2, hk1, t1, t2, r1, r2, r3, r4, r5, hta, g1, g3] <;> rfl) ?_
                refine Run.nil ?_
                refine Exec.cndS (by simp only [go_sem, gt_iff_lt, ge_iff_le, pick_max, Int.zero_sub, hb2, hr, hA, g1, g2, hk1, t1, t2, r1, r2, r3, r4, r5, hta, g1, g3] <;> rfl) (fun hb157 => ?_) (fun hb157 => ?_)
                · exact absurd hb157 (by simp)
                · skip
                  refine Exec.skipS ?_
                  refine Exec.reg ?_
                  iterate 5 (refine Run.o1 (by simp only [go_sem, gt_iff_lt, ge_iff_le, pick_max, Int.zero_sub, hb2, hr, hA, g1, g2, hk1, t1, t2, r1, r2, r3, r4, r5, hta, g1, g3] <;> rfl) ?_)
                  refine Run.c1 (c_bill_Cost a (a.ds.getD m default).day (a.ds.getD m default).day) (by simp only [go_sem, gt_iff_lt, ge_iff_le, pick_max, Int.zero_sub, hb2, hr, hA, g1, g2, hk1, t1, t2, r1, r2, r3, r4, r5, hta, g1, g3] <;> rfl) (by simp only [go_sem, gt_iff_lt, ge_iff_le, pick_max, Int.zero_sub, hb2, hr, hA, g1, g2, hk1, t1, t2, r1, r2, r3, r4, r5, hta, g1, g3] <;> rfl) ?_
                  iterate 5 (refine Run.o1 (by simp only [go_sem, gt_iff_lt, ge_iff_le, pick_max, Int.zero_sub, hb2, hr, hA, g1, g2, hk1, t1, t2, r1, r2, r3, r4, r5, hta, g1, g3] <;> rfl) ?_)
                  refine Run.nil ?_
                  refine Exec.reg ?_
                  iterate 5 (refine Run.o1 (by simp only [go_sem, gt_iff_lt, ge_iff_le, pick_max, Int.zero_sub, hb2, hr, hA, g1, g2, hk1, t1, t2, r1, r2, r3, r4, r5, hta, g1, g3] <;> rfl) ?_)
                  refine Run.c1 (c_bill_Cost (woD a m) (a.ds.getD m default).day (a.ds.getD m default).day) (by simp only [go_sem, gt_iff_lt, ge_iff_le, pick_max, Int.zero_sub, hb2, hr, hA, g1, g2, hk1, t1, t2, r1, r2, r3, r4, r5, hta, g1, g3] <;> rfl) (by simp only [go_sem, gt_iff_lt, ge_iff_le, pick_max, Int.zero_sub, hb2, hr, hA, g1, g2, hk1, t1, t2, r1, r2, r3, r4, r5, hta, g1, g3] <;> rfl) ?_
                  iterate 5 (refine Run.o1 (by simp only [go_sem, gt_iff_lt, ge_iff_le, pick_max, Int.zero_sub, hb2, hr, hA, g1, g2, hk1, t1, t2, r1, r2, r3, r4, r5, hta, g1, g3] <;> rfl) ?_)
                  refine Run.nil ?_
                  refine Exec.reg ?_
                  iterate 3 (refine Run.o1 (by simp only [go_sem, gt_iff_lt, ge_iff_le, pick_max, Int.zero_sub, hb2, hr, hA, g1, g2, hk1, t1, t2, r1, r2, r3, r4, r5, hta, g1, g3] <;> rfl) ?_)
                  iterate 2 (refine Run.y1 (by simp only [go_sem, gt_iff_lt, ge_iff_le, pick_max, Int.zero_sub, hb2, hr, hA, g1, g2, hk1, t1, t2, r1, r2, r3, r4, r5, hta, g1, g3] <;> rfl) ?_)
                  iterate 2 (refine Run.o1 (by simp only [go_sem, gt_iff_lt, ge_iff_le, pick_max, Int.zero_sub, hb2, hr, hA, g1, g2, hk1, t1, t2, r1, r2, r3, r4, r5, hta, g1, g3] <;> rfl) ?_)
                  iterate 2 (refine Run.y1 (by simp only [go_sem, gt_iff_lt, ge_iff_le, pick_max, Int.zero_sub, hb2, hr, hA, g1, g2, hk1, t1, t2, r1, r2, r3, r4, r5, hta, g1, g3] <;> rfl) ?_)
                  refine Run.y1 (by simp only [go_sem, gt_iff_lt, ge_iff_le, pick_max, Int.zero_sub, hb2, hr, hA, g1, g2, hk1, t1, t2, r1, r2, r3, r4, r5, hta, g1, g3]; (try simp (disch := omega) only [IntWalk.i64_in, IntWalk.u64_in, if_neg, if_pos])<;> rfl) ?_
                  iterate 2 (refine Run.y1 (by simp only [go_sem, gt_iff_lt, ge_iff_le, pick_max, Int.zero_sub, hb2, hr, hA, g1, g2, hk1, t1, t2, r1, r2, r3, r4, r5, hta, g1, g3] <;> rfl) ?_)
                  iterate 2 (refine Run.o1 (by simp only [go_sem, gt_iff_lt, ge_iff_le, pick_max, Int.zero_sub, hb2, hr, hA, g1, g2, hk1, t1, t2, r1, r2, r3, r4, r5, hta, g1, g3] <;> rfl) ?_)
                  refine Run.calw (by simp only [go_sem] <;> rfl) (c_law_awake) (by simp only [go_sem]) (by simp only [go_sem, gt_iff_lt, ge_iff_le, pick_max, Int.zero_sub, hb2, hr, hA, g1, g2, hk1, t1, t2, r1, r2, r3, r4, r5, hta, g1, g3] <;> rfl) (by simp only [go_sem, gt_iff_lt, ge_iff_le, pick_max, Int.zero_sub, hb2, hr, hA, g1, g2, hk1, t1, t2, r1, r2, r3, r4, r5, hta, g1, g3] <;> rfl) (by exact trivial) (fr0) (by simp only [go_sem, gt_iff_lt, ge_iff_le, pick_max, Int.zero_sub, hb2, hr, hA, g1, g2, hk1, t1, t2, r1, r2, r3, r4, r5, hta, g1, g3] <;> rfl) ?_
                  iterate 2 (refine Run.o1 (by simp only [go_sem, gt_iff_lt, ge_iff_le, pick_max, Int.zero_sub, hb2, hr, hA, g1, g2, hk1, t1, t2, r1, r2, r3, r4, r5, hta, g1, g3] <;> rfl) ?_)
                  refine Run.nil ?_
                  exact Ends.fin [] (rs := [.tmp 6]) rfl (by simp only [go_sem, gt_iff_lt, ge_iff_le, pick_max, Int.zero_sub, hb2, hr, hA, g1, g2, hk1, t1, t2, r1, r2, r3, r4, r5, hta, g1, g3] <;> rfl) (by simp only [go_sem, gt_iff_lt, ge_iff_le, pick_max, Int.zero_sub, hb2, hr, hA, g1, g2, hk1, t1, t2, r1, r2, r3, r4, r5, hta, g1, g3] <;> first | rfl | exact eqz)

end Go.Mw
namespace Go.Proofs.Ytabfdgdckmhhgaa
open Go.Mw Go.ChangeShapes Go.WideShapes Go.ChangeAt Go.RowKit

theorem own : ownKnob Try.prog.godebug = none := by kernel_rfl
theorem laidOut : laidOutB Try.prog = true := by kernel_rfl
set_option maxRecDepth 100000 in
theorem lifted (os : Os) (started : os.Started) (H : Type) (enc : TypeId × Value → H) :
    ReturnsInHanded {} Try.checked os 8 .any (Rows.billSettleSpec.pre6 enc Try.prog Try.f8 Rows.billSettleRow.domain false) (Rows.billSettleSpec.post enc Try.prog Try.f8 false true false false) := by
  refine returnsInHanded_of_change (C := Try.checked) own started (by kernel_rfl) Try.func8
    (ChangeSpec.witness6 (enc := enc) (C := Try.checked) false ⟨#[], #[.agg #[.int .i64 0, .int .i64 0, .int .i64 0, .int .i64 0, .slice none 0 0, .slice none 0 0, .slice none 0 0, .slice none 0 0], .int .i64 0, .int .i64 0], []⟩ 8 (by kernel_rfl) (by kernel_rfl) (by kernel_rfl) (by kernel_rfl)) ?_
  intro W base args ds gs before hval0 hW hcnd _
  have hval : ∀ (j : Nat) t v, Try.f8.params[j]? = some t → args[j]? = some v → Value.okWide Try.prog W .any base t v := hval0
  have hW' := hW
  obtain ⟨p, q, hA0, hV, rfl, hfz, hnd⟩ := hW
  have hA : DataW.TrodAll enc Try.prog W 0 (fun _ => true) true Try.f8.params.toList args.toList ds p := hA0
  rw [Try.params8] at hA hval
  obtain ⟨v0, v1, v2, d0, d1, d2, p0, p1, p2, rfl, rfl, rfl, h0, h1, h2⟩ := trodAll_three hA
  obtain ⟨rfl, rfl⟩ := trodVars_none hV
  obtain ⟨x0, hx0⟩ := ac_read (hval 0 27 v0 rfl rfl) h0
  obtain ⟨x1, hb1, hx1⟩ := int_read (k := .i64) (P := Try.prog) (by kernel_rfl) (hval 1 3 v1 rfl rfl) h1
  obtain ⟨x2, hb2, hx2⟩ := int_read (k := .i64) (P := Try.prog) (by kernel_rfl) (hval 2 3 v2 rfl rfl) h2
  refine (row_con (c_law_BillSettle x0 x1 x2) W [v0, v1, v2] ⟨hx0, hx1, hx2, trivial⟩).mono fun e W' ⟨he, hb⟩ => ?_
  exact ⟨_, he, post_below (tb := 4) hW' hb rfl rfl rfl (by kernel_rfl) laidOut (by decide +kernel)⟩
theorem holds : Rows.BillSettleSaid :=
  OpenClaim.holds_of_wide 8 Try.f8 rfl rfl rfl rfl rfl rfl rfl ⟨rfl, rfl, rfl, rfl, rfl⟩ rfl rfl rfl rfl rfl (by kernel_rfl) Try.func8 (by kernel_rfl)
    (of_decide_eq_true (by kernel_rfl)) (by unfold Func.isWrapper; first | (rw [if_pos (by decide +kernel)]; kernel_rfl) | (rw [if_neg (by decide +kernel)]; exact ⟨rfl, rfl⟩))
    (fun os started H enc _ => lifted os started H enc)
end Go.Proofs.Ytabfdgdckmhhgaa
#print axioms Go.Proofs.Ytabfdgdckmhhgaa.holds

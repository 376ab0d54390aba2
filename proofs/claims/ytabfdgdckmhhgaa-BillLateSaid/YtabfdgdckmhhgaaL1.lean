/- Contracts of the statements BillSums and BillRises. -/
import Derived.Test.YtabfdgdckmhhgaaB11
import Derived.Test.YtabfdgdckmhhgaaB4
import Derived.Test.YtabfdgdckmhhgaaRows
set_option linter.unusedSimpArgs false
set_option linter.unusedVariables false
set_option linter.unusedSectionVars false
set_option linter.deprecated false
namespace Go.Mw
open Go.Proofs
open Go.Bi
attribute [local go_sem] decide_true beq_self_eq_true bne_self_eq_false
theorem billsR_E (a : Ac) : (billsR a).2 = billsE a := by
  unfold billsR
  split
  · rename_i h; exact h.symm
  · rfl
theorem bills_zero {a : Ac} (h : billsE a = 0) : startE a = 0 ∧ ordsB a a.bs = true := by
  have he0 : startE a = 0 := by
    unfold billsE at h
    split at h
    · rename_i h2; exact absurd h h2
    · rename_i h2; simpa using h2
  refine ⟨he0, ?_⟩
  unfold billsE at h
  rw [if_neg (by simp [he0])] at h
  split at h
  · cases h
  · rename_i h2; simpa using h2
end Go.Mw
namespace Go.Mw
open Go.Proofs
open Go.Bi
attribute [local go_sem] decide_true beq_self_eq_true bne_self_eq_false
theorem pts_late_all {a : Ac} {n m : Nt} (hd : m.day = n.day) (hf : m.fig = n.fig) (hc : n.came ≤ m.came) (hown : ∀ o ∈ a.ns, o.day ≠ n.day) (h0 : startE (acN a (a.ns ++ [n])) = 0) (h1 : startE (acN a (a.ns ++ [m])) = 0) {known : Int} (hm : m.came ≤ known) :
    pts (acN a (a.ns ++ [m])) known = pts (acN a (a.ns ++ [n])) known := pts_late hd hf hown h0 h1 (by omega) hm
theorem late_pen {a : Ac} {n m : Nt} (hd : m.day = n.day) (hf : m.fig = n.fig) (hc : n.came ≤ m.came) (hown : ∀ o ∈ a.ns, o.day ≠ n.day) (h0 : startE (acN a (a.ns ++ [n])) = 0) (h1 : startE (acN a (a.ns ++ [m])) = 0) {k : Nat} (hk : m.came ≤ bdAt a k) :
    penTo (acN a (a.ns ++ [m])) (k + 1) = penTo (acN a (a.ns ++ [n])) (k + 1) := by
  have hp := pts_late_all hd hf hc hown h0 h1 hk
  show cost _ _ _ _ = cost _ _ _ _
  have e1 : bdAt (acN a (a.ns ++ [m])) k = bdAt a k := rfl
  have e2 : bdAt (acN a (a.ns ++ [n])) k = bdAt a k := rfl
  rw [e1, e2, cost_G, cost_G, hp, costG_N, costG_N]; rfl
theorem late_bl {a : Ac} {m : Nt} (v : Val a) (hs : startE a = 0) (h1 : startE (acN a (a.ns ++ [m])) = 0) {k : Nat} (hl : k < a.bs.length) (hk : bdAt a k < m.came) : blAt (acN a (a.ns ++ [m])) k = blAt a k := by
  have hp : ∀ j, j ≤ k → pts (acN a (a.ns ++ [m])) (bdAt a j) = pts a (bdAt a j) := fun j hj => pts_more hs h1 (by have := bil_mono v hj hl; omega)
  have e : ∀ j, bdAt (acN a (a.ns ++ [m])) j = bdAt a j := fun _ => rfl
  have l1 : litTo (acN a (a.ns ++ [m])) (k + 1) = litTo a (k + 1) := used_N a _ (hp k (Nat.le_refl _))
  have p1 : penTo (acN a (a.ns ++ [m])) (k + 1) = penTo a (k + 1) := cost_N a _ (hp k (Nat.le_refl _))
  have l0 : litTo (acN a (a.ns ++ [m])) k = litTo a k := by
    cases k with
    | zero => rfl
    | succ j => exact used_N a _ (hp j (by omega))
  have p0 : penTo (acN a (a.ns ++ [m])) k = penTo a k := by
    cases k with
    | zero => rfl
    | succ j => exact cost_N a _ (hp j (by omega))
  have c0 : corAt (acN a (a.ns ++ [m])) k = corAt a k := by
    cases k with
    | zero => rfl
    | succ j =>
      show cost _ _ _ _ - cost _ _ _ _ = cost _ _ _ _ - cost _ _ _ _
      rw [e, e, cost_N a _ (hp (j + 1) (Nat.le_refl _)), cost_N a _ (hp j (by omega))]
  unfold blAt
  rw [l1, p1, l0, p0, c0]
theorem came_le {a : Ac} {n : Nt} (h : startE (acN a (a.ns ++ [n])) = 0) : n.day ≤ n.came ∧ n.came ≤ 131072 ∧ 0 ≤ n.day := by
  have v := start_val h
  have := v.nte n (List.mem_append.2 (.inr (List.mem_singleton.2 rfl)))
  have := v.start
  have e : (acN a (a.ns ++ [n])).start = a.start := rfl
  omega
set_option maxRecDepth 20000 in
set_option maxHeartbeats 64000000 in
/-- meterworks/meterworkslaw13.BillLate -/
theorem c_law_BillLate (a : Ac) (n : Nt) (q : Nat) (hq : q < 65536) : Contract Try.prog 6 [acV a, ntV n, .raw (.int .u16 q)] (.bool true) [] := by
  have hmd : (q : Int).tmod 200 = ((q % 200 : Nat) : Int) := by rw [Int.tmod_eq_emod_of_nonneg (by omega)]; omega
  obtain ⟨cm, hcm⟩ : ∃ cm, min 131072 (IntKind.i64.wrap (n.came + ((q % 200 : Nat) : Int))) = cm := ⟨_, rfl⟩
  refine con_of follows_mixed Try.func6 rfl (by simp only [List.length_cons, List.length_nil, Try.ntmps6]; omega) (by kernel_rfl) rfl ?_
  refine Exec.reg ?_
  iterate 3 (refine Run.o1 (by simp only [go_sem, hmd, ge_iff_le, gt_iff_lt, pick_min] <;> rfl) ?_)
  refine Run.nil ?_
  refine Exec.assocS ?_
  refine Exec.reg ?_
  refine Run.o1 (by simp only [go_sem, hmd, ge_iff_le, gt_iff_lt, pick_min] <;> rfl) ?_
  refine Run.c1 (c_law_large a) (by simp only [go_sem, hmd, ge_iff_le, gt_iff_lt, pick_min] <;> rfl) (by simp only [go_sem, hmd, ge_iff_le, gt_iff_lt, pick_min] <;> rfl) ?_
  refine Run.o1 (by simp only [go_sem, hmd, ge_iff_le, gt_iff_lt, pick_min] <;> rfl) ?_
  iterate 4 (refine Run.gop (by simp only [go_sem] <;> rfl) (by simp only [go_sem, hmd, ge_iff_le, gt_iff_lt, pick_min] <;> rfl) (by simp only [go_sem] <;> rfl) ?_)
  iterate 2 (refine Run.o1 (by simp only [go_sem, hmd, ge_iff_le, gt_iff_lt, pick_min] <;> rfl) ?_)
  iterate 4 (refine Run.gop (by simp only [go_sem] <;> rfl) (by simp only [go_sem, hmd, ge_iff_le, gt_iff_lt, pick_min] <;> rfl) (by simp only [go_sem] <;> rfl) ?_)
  refine Run.o1 (by simp only [go_sem, hmd, ge_iff_le, gt_iff_lt, pick_min] <;> rfl) ?_
  refine Run.nil ?_
  refine Exec.cndS (by simp only [go_sem, hmd, ge_iff_le, gt_iff_lt, pick_min] <;> rfl) (fun hb33 => ?_) (fun hb33 => ?_)
  · skip
    refine Exec.assocS ?_
    refine Exec.reg ?_
    refine Run.c1 (c_law_awake) (by simp only [go_sem, hmd, ge_iff_le, gt_iff_lt, pick_min] <;> rfl) (by simp only [go_sem, hmd, ge_iff_le, gt_iff_lt, pick_min] <;> rfl) ?_
    refine Run.o1 (by simp only [go_sem, hmd, ge_iff_le, gt_iff_lt, pick_min] <;> rfl) ?_
    refine Run.nil ?_
    refine Exec.retS ?_
    exact Ends.fin [] (rs := [.tmp 6]) rfl (by simp only [go_sem, hmd, ge_iff_le, gt_iff_lt, pick_min] <;> rfl) (by simp only [go_sem, hmd, ge_iff_le, gt_iff_lt, pick_min] <;> first | rfl | exact eqz)
  · skip
    have hsm : a.ns.length < 24 := by
      have h := hb33
      simp only [Bool.or_eq_false_iff, decide_eq_false_iff_not] at h
      omega
    refine Exec.skipS ?_
    refine Exec.assocS ?_
    refine Exec.reg ?_
    refine Run.o1 (by simp only [go_sem, hmd, ge_iff_le, gt_iff_lt, pick_min] <;> rfl) ?_
    refine Run.nil ?_
    refine Exec.blk ?_
    refine Exec.forA [2, 3, 4, 7] [3, 4] (a.ns.length) (fun k => [.slot 7 (.int k)]) (fun k => (a.ns.take k).any (fun o => decide (o.day = n.day)) = false) (fun k => by simp only [go_sem] <;> rfl) (by simp only [go_sem, hmd, ge_iff_le, gt_iff_lt, pick_min] <;> rfl) ?_ (fun k hk hX => ?_)
    · rfl
    · skip
      refine Exec.assocS ?_
      refine Exec.reg ?_
      iterate 5 (refine Run.o1 (by simp only [go_sem, hmd, ge_iff_le, gt_iff_lt, pick_min] <;> rfl) ?_)
      refine Run.nil ?_
      refine Exec.cndS (by simp only [go_sem, hmd, ge_iff_le, gt_iff_lt, pick_min] <;> rfl) (fun hb39 => ?_) (fun hb39 => ?_)
      · skip
        have hlt := lt_of_dec hb39
        have hk1 := nt_get hlt
        refine Exec.skipS ?_
        refine Exec.blk ?_
        refine Exec.opk 11 ?_
        iterate 3 (refine OpenK.o1 (by simp only [go_sem, hmd, ge_iff_le, gt_iff_lt, pick_min, hk1] <;> rfl) ?_)
        refine OpenK.o1 (by simp only [go_sem, hmd, ge_iff_le, gt_iff_lt, pick_min, hk1]; (try simp (disch := omega) only [if_pos]); (try simp only [go_sem, hmd, ge_iff_le, gt_iff_lt, pick_min, hk1])<;> rfl) ?_
        iterate 5 (refine OpenK.o1 (by simp only [go_sem, hmd, ge_iff_le, gt_iff_lt, pick_min, hk1] <;> rfl) ?_)
        refine OpenK.nil (OpenE.fin (by decide +kernel) (by decide +kernel) ?_)
        refine Exec.cnd (by simp only [go_sem, hmd, ge_iff_le, gt_iff_lt, pick_min, hk1] <;> rfl) (fun hb50 => ?_) (fun hb50 => ?_)
        · skip
          refine Exec.reg ?_
          refine Run.c1 (c_law_awake) (by simp only [go_sem, hmd, ge_iff_le, gt_iff_lt, pick_min, hk1] <;> rfl) (by simp only [go_sem, hmd, ge_iff_le, gt_iff_lt, pick_min, hk1] <;> rfl) ?_
          refine Run.o1 (by simp only [go_sem, hmd, ge_iff_le, gt_iff_lt, pick_min, hk1] <;> rfl) ?_
          refine Run.nil ?_
          refine BlkK.ret ?_
          refine ForK.ret ?_
          refine BlkK.ret ?_
          exact Ends.fin [] (rs := [.tmp 6]) rfl (by simp only [go_sem, hmd, ge_iff_le, gt_iff_lt, pick_min, hk1] <;> rfl) (by simp only [go_sem, hmd, ge_iff_le, gt_iff_lt, pick_min, hk1] <;> first | rfl | exact eqz)
        · skip
          have hno : decide ((a.ns.getD k default).day = n.day) = false := by rw [← eqd]; exact hb50
          refine BlkK.nrm ?_
          refine Exec.reg1 ?_
          refine Run.o1 (by simp only [go_sem, hmd, ge_iff_le, gt_iff_lt, pick_min, hk1] <;> rfl) ?_
          refine Run.o1 (by simp only [go_sem, hmd, ge_iff_le, gt_iff_lt, pick_min, hk1]; (try simp (disch := omega) only [IntWalk.i64_in, IntWalk.u64_in, if_neg, if_pos])<;> rfl) ?_
          refine Run.o1 (by simp only [go_sem, hmd, ge_iff_le, gt_iff_lt, pick_min, hk1] <;> rfl) ?_
          refine Run.nil ?_
          refine ForK.nxt ?_ ?_ ?_
          · omega
          · exact Ghost.kp [2, 3, 4, 7] [3, 4] (by simp only [go_sem, hmd, ge_iff_le, gt_iff_lt, pick_min, hk1] <;> first | exact eqz | rfl)
          · exact any_step hX hk1 hno
      · skip
        have hke : k = a.ns.length := by have := ge_of_dec hb39; omega
        subst hke
        have hall := any_done hX (Nat.le_refl _)
        have hown : ∀ o ∈ a.ns, o.day ≠ n.day := fun o ho => by
          rw [List.any_eq_false] at hall
          simpa using hall o ho
        have hp1 : (billsR a).2 = billsE a := billsR_E a
        have hp2 : (billsR (acN a (a.ns ++ [n]))).2 = billsE (acN a (a.ns ++ [n])) := billsR_E _
        have hp3 : (billsR (acN a (a.ns ++ [⟨n.day, n.fig, cm⟩]))).2 = billsE (acN a (a.ns ++ [⟨n.day, n.fig, cm⟩])) := billsR_E _
        have hta1 : List.take (a.ns.length + 1) (List.map encNt a.ns ++ [[.i n.day, .i n.fig, .i n.came]]) = List.map encNt (a.ns ++ [n]) := by rw [List.take_of_length_le (by simp)]; simp [encNt]
        have hta2 : List.take (a.ns.length + 1) (List.map encNt a.ns ++ [[.i n.day, .i n.fig, .raw (.int .i64 cm)]]) = List.map encNt (a.ns ++ [⟨n.day, n.fig, cm⟩]) := by rw [List.take_of_length_le (by simp)]; simp [encNt]
        refine Exec.exitS ?_
        refine ForK.ext ?_
        refine BlkK.hit ?_
        refine Exec.opk 8 ?_
        iterate 6 (refine OpenK.o1 (by simp only [go_sem, hmd, ge_iff_le, gt_iff_lt, pick_min, hcm] <;> rfl) ?_)
        refine OpenK.nil (OpenE.fin (by decide +kernel) (by decide +kernel) ?_)
        refine Exec.opk 11 ?_
        iterate 3 (refine OpenK.o1 (by simp only [go_sem, hmd, ge_iff_le, gt_iff_lt, pick_min, hcm] <;> rfl) ?_)
        refine OpenK.o1 (by simp only [go_sem, hmd, ge_iff_le, gt_iff_lt, pick_min, hcm]; (try simp (disch := omega) only [if_pos]); (try simp only [go_sem, hmd, ge_iff_le, gt_iff_lt, pick_min, hcm]) <;> first | (refine ite_run ⟨by (try simp only [List.length_append, List.length_drop, List.length_take, List.length_map, List.length_cons, List.length_nil, List.length_replicate, List.length_set, List.length_range, Nat.zero_add]); omega, by (try simp only [List.length_append, List.length_drop, List.length_take, List.length_map, List.length_cons, List.length_nil, List.length_replicate, List.length_set, List.length_range, Nat.zero_add]); omega, by repeat (first | exact al_nil | assumption | refine al_app ?_ ?_ | refine al_drop ?_ | refine al_take ?_ | exact al_map (fun _ => rfl) | exact al_rep rfl | refine al_cons rfl ?_)⟩ ?_; simp only [go_sem, hmd, ge_iff_le, gt_iff_lt, pick_min, hcm] <;> rfl) | (refine ite_run ⟨by (try simp only [List.length_append, List.length_drop, List.length_take, List.length_map, List.length_cons, List.length_nil, List.length_replicate, List.length_set, List.length_range, Nat.zero_add]); omega, by repeat (first | exact al_nil | assumption | refine al_app ?_ ?_ | refine al_drop ?_ | refine al_take ?_ | exact al_map (fun _ => rfl) | exact al_rep rfl | refine al_cons rfl ?_)⟩ ?_; simp only [go_sem, hmd, ge_iff_le, gt_iff_lt, pick_min, hcm] <;> rfl) | rfl) ?_
        iterate 2 (refine OpenK.o1 (by simp only [go_sem, hmd, ge_iff_le, gt_iff_lt, pick_min, hcm] <;> rfl) ?_)
        refine OpenK.o1 (by simp only [go_sem, hmd, ge_iff_le, gt_iff_lt, pick_min, hcm]; (try simp (disch := omega) only [if_pos]); (try simp only [go_sem, hmd, ge_iff_le, gt_iff_lt, pick_min, hcm]) <;> first | (refine ite_run ⟨by (try simp only [List.length_append, List.length_drop, List.length_take, List.length_map, List.length_cons, List.length_nil, List.length_replicate, List.length_set, List.length_range, Nat.zero_add]); omega, by (try simp only [List.length_append, List.length_drop, List.length_take, List.length_map, List.length_cons, List.length_nil, List.length_replicate, List.length_set, List.length_range, Nat.zero_add]); omega, by repeat (first | exact al_nil | assumption | refine al_app ?_ ?_ | refine al_drop ?_ | refine al_take ?_ | exact al_map (fun _ => rfl) | exact al_rep rfl | refine al_cons rfl ?_)⟩ ?_; simp only [go_sem, hmd, ge_iff_le, gt_iff_lt, pick_min, hcm] <;> rfl) | (refine ite_run ⟨by (try simp only [List.length_append, List.length_drop, List.length_take, List.length_map, List.length_cons, List.length_nil, List.length_replicate, List.length_set, List.length_range, Nat.zero_add]); omega, by repeat (first | exact al_nil | assumption | refine al_app ?_ ?_ | refine al_drop ?_ | refine al_take ?_ | exact al_map (fun _ => rfl) | exact al_rep rfl | refine al_cons rfl ?_)⟩ ?_; simp only [go_sem, hmd, ge_iff_le, gt_iff_lt, pick_min, hcm] <;> rfl) | rfl) ?_
        iterate 2 (refine OpenK.o1 (by simp only [go_sem, hmd, ge_iff_le, gt_iff_lt, pick_min, hcm] <;> rfl) ?_)
        refine OpenK.nil (OpenE.gho (by decide +kernel) (by decide +kernel) (Ghost.frzA 54) (by simp only [go_sem] <;> rfl) ?_)
        refine Exec.reg ?_
        iterate 3 (refine Run.o1 (by simp only [go_sem, hmd, ge_iff_le, gt_iff_lt, pick_min, hcm] <;> rfl) ?_)
        iterate 3 (refine Run.o1 (by simp only [go_sem, hmd, ge_iff_le, gt_iff_lt, pick_min, hcm]; (try simp (disch := omega) only [IntWalk.i64_in, IntWalk.u64_in, if_neg, if_pos])<;> rfl) ?_)
        iterate 3 (refine Run.o1 (by simp only [go_sem, hmd, ge_iff_le, gt_iff_lt, pick_min, hcm] <;> rfl) ?_)
        refine Run.nil ?_
        refine Exec.opk 11 ?_
        iterate 3 (refine OpenK.o1 (by simp only [go_sem, hmd, ge_iff_le, gt_iff_lt, pick_min, hcm] <;> rfl) ?_)
        refine OpenK.o1 (by simp only [go_sem, hmd, ge_iff_le, gt_iff_lt, pick_min, hcm]; (try simp (disch := omega) only [if_pos]); (try simp only [go_sem, hmd, ge_iff_le, gt_iff_lt, pick_min, hcm]) <;> first | (refine ite_run ⟨by (try simp only [List.length_append, List.length_drop, List.length_take, List.length_map, List.length_cons, List.length_nil, List.length_replicate, List.length_set, List.length_range, Nat.zero_add]); omega, by (try simp only [List.length_append, List.length_drop, List.length_take, List.length_map, List.length_cons, List.length_nil, List.length_replicate, List.length_set, List.length_range, Nat.zero_add]); omega, by repeat (first | exact al_nil | assumption | refine al_app ?_ ?_ | refine al_drop ?_ | refine al_take ?_ | exact al_map (fun _ => rfl) | exact al_rep rfl | refine al_cons rfl ?_)⟩ ?_; simp only [go_sem, hmd, ge_iff_le, gt_iff_lt, pick_min, hcm] <;> rfl) | (refine ite_run ⟨by (try simp only [List.length_append, List.length_drop, List.length_take, List.length_map, List.length_cons, List.length_nil, List.length_replicate, List.length_set, List.length_range, Nat.zero_add]); omega, by repeat (first | exact al_nil | assumption | refine al_app ?_ ?_ | refine al_drop ?_ | refine al_take ?_ | exact al_map (fun _ => rfl) | exact al_rep rfl | refine al_cons rfl ?_)⟩ ?_; simp only [go_sem, hmd, ge_iff_le, gt_iff_lt, pick_min, hcm] <;> rfl) | rfl) ?_
        iterate 2 (refine OpenK.o1 (by simp only [go_sem, hmd, ge_iff_le, gt_iff_lt, pick_min, hcm] <;> rfl) ?_)
        refine OpenK.o1 (by simp only [go_sem, hmd, ge_iff_le, gt_iff_lt, pick_min, hcm]; (try simp (disch := omega) only [if_pos]); (try simp only [go_sem, hmd, ge_iff_le, gt_iff_lt, pick_min, hcm]) <;> first | (refine ite_run ⟨by (try simp only [List.length_append, List.length_drop, List.length_take, List.length_map, List.length_cons, List.length_nil, List.length_replicate, List.length_set, List.length_range, Nat.zero_add]); omega, by (try simp only [List.length_append, List.length_drop, List.length_take, List.length_map, List.length_cons, List.length_nil, List.length_replicate, List.length_set, List.length_range, Nat.zero_add]); omega, by repeat (first | exact al_nil | assumption | refine al_app ?_ ?_ | refine al_drop ?_ | refine al_take ?_ | exact al_map (fun _ => rfl) | exact al_rep rfl | refine al_cons rfl ?_)⟩ ?_; simp only [go_sem, hmd, ge_iff_le, gt_iff_lt, pick_min, hcm] <;> rfl) | (refine ite_run ⟨by (try simp only [List.length_append, List.length_drop, List.length_take, List.length_map, List.length_cons, List.length_nil, List.length_replicate, List.length_set, List.length_range, Nat.zero_add]); omega, by repeat (first | exact al_nil | assumption | refine al_app ?_ ?_ | refine al_drop ?_ | refine al_take ?_ | exact al_map (fun _ => rfl) | exact al_rep rfl | refine al_cons rfl ?_)⟩ ?_; simp only [go_sem, hmd, ge_iff_le, gt_iff_lt, pick_min, hcm] <;> rfl) | rfl) ?_
        iterate 2 (refine OpenK.o1 (by simp only [go_sem, hmd, ge_iff_le, gt_iff_lt, pick_min, hcm] <;> rfl) ?_)
        refine OpenK.nil (OpenE.gho (by decide +kernel) (by decide +kernel) (Ghost.frzA 70) (by simp only [go_sem] <;> rfl) ?_)
        refine Exec.reg ?_
        refine Run.o1 (by simp only [go_sem, hmd, ge_iff_le, gt_iff_lt, pick_min, hcm, hp1, hp2, hp3, hta1, hta2] <;> rfl) ?_
        refine Run.c1 (c_bill_Bills a) (by simp only [go_sem, hmd, ge_iff_le, gt_iff_lt, pick_min, hcm, hp1, hp2, hp3, hta1, hta2] <;> rfl) (by simp only [go_sem, hmd, ge_iff_le, gt_iff_lt, pick_min, hcm, hp1, hp2, hp3, hta1, hta2] <;> rfl) ?_
        iterate 5 (refine Run.o1 (by simp only [go_sem, hmd, ge_iff_le, gt_iff_lt, pick_min, hcm, hp1, hp2, hp3, hta1, hta2] <;> rfl) ?_)
        refine Run.nil ?_
        refine Exec.reg ?_
        refine Run.o1 (by simp only [go_sem, hmd, ge_iff_le, gt_iff_lt, pick_min, hcm, hp1, hp2, hp3, hta1, hta2] <;> rfl) ?_
        refine Run.c1 (c_bill_Bills (acN a (a.ns ++ [n]))) (by simp only [go_sem, hmd, ge_iff_le, gt_iff_lt, pick_min, hcm, hp1, hp2, hp3, hta1, hta2] <;> rfl) (by simp only [go_sem, hmd, ge_iff_le, gt_iff_lt, pick_min, hcm, hp1, hp2, hp3, hta1, hta2] <;> rfl) ?_
        iterate 5 (refine Run.o1 (by simp only [go_sem, hmd, ge_iff_le, gt_iff_lt, pick_min, hcm, hp1, hp2, hp3, hta1, hta2] <;> rfl) ?_)
        refine Run.nil ?_
        refine Exec.reg ?_
        refine Run.o1 (by simp only [go_sem, hmd, ge_iff_le, gt_iff_lt, pick_min, hcm, hp1, hp2, hp3, hta1, hta2] <;> rfl) ?_
        refine Run.c1 (c_bill_Bills (acN a (a.ns ++ [⟨n.day, n.fig, cm⟩]))) (by simp only [go_sem, hmd, ge_iff_le, gt_iff_lt, pick_min, hcm, hp1, hp2, hp3, hta1, hta2] <;> rfl) (by simp only [go_sem, hmd, ge_iff_le, gt_iff_lt, pick_min, hcm, hp1, hp2, hp3, hta1, hta2] <;> rfl) ?_
        iterate 5 (refine Run.o1 (by simp only [go_sem, hmd, ge_iff_le, gt_iff_lt, pick_min, hcm, hp1, hp2, hp3, hta1, hta2] <;> rfl) ?_)
        refine Run.nil ?_
        refine Exec.assocS ?_
        refine Exec.reg ?_
        iterate 3 (refine Run.o1 (by simp only [go_sem, hmd, ge_iff_le, gt_iff_lt, pick_min, hcm, hp1, hp2, hp3, hta1, hta2] <;> rfl) ?_)
        iterate 2 (refine Run.gop (by simp only [go_sem] <;> rfl) (by simp only [go_sem, hmd, ge_iff_le, gt_iff_lt, pick_min, hcm, hp1, hp2, hp3, hta1, hta2] <;> rfl) (by simp only [go_sem] <;> rfl) ?_)
        iterate 2 (refine Run.o1 (by simp only [go_sem, hmd, ge_iff_le, gt_iff_lt, pick_min, hcm, hp1, hp2, hp3, hta1, hta2] <;> rfl) ?_)
        iterate 2 (refine Run.gop (by simp only [go_sem] <;> rfl) (by simp only [go_sem, hmd, ge_iff_le, gt_iff_lt, pick_min, hcm, hp1, hp2, hp3, hta1, hta2] <;> rfl) (by simp only [go_sem] <;> rfl) ?_)
        refine Run.o1 (by simp only [go_sem, hmd, ge_iff_le, gt_iff_lt, pick_min, hcm, hp1, hp2, hp3, hta1, hta2] <;> rfl) ?_
        refine Run.nil ?_
        refine Exec.cndS (by simp only [go_sem, hmd, ge_iff_le, gt_iff_lt, pick_min, hcm, hp1, hp2, hp3, hta1, hta2] <;> rfl) (fun hb102 => ?_) (fun hb102 => ?_)
        · skip
          refine Exec.assocS ?_
          refine Exec.reg ?_
          refine Run.c1 (c_law_awake) (by simp only [go_sem, hmd, ge_iff_le, gt_iff_lt, pick_min, hcm, hp1, hp2, hp3, hta1, hta2] <;> rfl) (by simp only [go_sem, hmd, ge_iff_le, gt_iff_lt, pick_min, hcm, hp1, hp2, hp3, hta1, hta2] <;> rfl) ?_
          refine Run.o1 (by simp only [go_sem, hmd, ge_iff_le, gt_iff_lt, pick_min, hcm, hp1, hp2, hp3, hta1, hta2] <;> rfl) ?_
          refine Run.nil ?_
          refine Exec.retS ?_
          exact Ends.fin [] (rs := [.tmp 6]) rfl (by simp only [go_sem, hmd, ge_iff_le, gt_iff_lt, pick_min, hcm, hp1, hp2, hp3, hta1, hta2] <;> rfl) (by simp only [go_sem, hmd, ge_iff_le, gt_iff_lt, pick_min, hcm, hp1, hp2, hp3, hta1, hta2] <;> first | rfl | exact eqz)
        · skip
          have hee : billsE a = 0 ∧ billsE (acN a (a.ns ++ [n])) = 0 ∧ billsE (acN a (a.ns ++ [⟨n.day, n.fig, cm⟩])) = 0 := by
            have h := hb102
            simp only [Bool.or_eq_false_iff, bne_eq_false_iff_eq] at h
            exact ⟨h.1.1, h.1.2, h.2⟩
          obtain ⟨hE1, hE2, hE3⟩ := hee
          obtain ⟨hs1, ho1⟩ := bills_zero hE1
          obtain ⟨hs2, ho2⟩ := bills_zero hE2
          obtain ⟨hs3, ho3⟩ := bills_zero hE3
          have v := start_val hs1
          have hnb := v.nbs
          have r1 : billsR a = (bllsT a a.bs.length, 0) := if_pos hE1
          have r2 : billsR (acN a (a.ns ++ [n])) = (bllsT (acN a (a.ns ++ [n])) a.bs.length, 0) := if_pos hE2
          have r3 : billsR (acN a (a.ns ++ [⟨n.day, n.fig, cm⟩])) = (bllsT (acN a (a.ns ++ [⟨n.day, n.fig, cm⟩])) a.bs.length, 0) := if_pos hE3
          have n1 := blls_len a a.bs.length
          have n2 := blls_len (acN a (a.ns ++ [n])) a.bs.length
          have n3 := blls_len (acN a (a.ns ++ [⟨n.day, n.fig, cm⟩])) a.bs.length
          have hz1 : penTo a 0 = 0 := rfl
          have hz2 : penTo (acN a (a.ns ++ [n])) 0 = 0 := rfl
          have hz3 : penTo (acN a (a.ns ++ [⟨n.day, n.fig, cm⟩])) 0 = 0 := rfl
          have hcb := came_le hs2
          have hcl : n.came ≤ cm := by
            have hw : IntKind.i64.wrap (n.came + ((q % 200 : Nat) : Int)) = n.came + ((q % 200 : Nat) : Int) := IntWalk.i64_in _ (by omega)
            rw [← hcm, hw]
            omega
          refine Exec.skipS ?_
          refine Exec.assocS ?_
          refine Exec.reg ?_
          iterate 7 (refine Run.o1 (by simp only [go_sem, hmd, ge_iff_le, gt_iff_lt, pick_min, hcm, hp1, hp2, hp3, hta1, hta2, r1, r2, r3, n1, n2, n3] <;> rfl) ?_)
          iterate 5 (refine Run.y1 (by simp only [go_sem, hmd, ge_iff_le, gt_iff_lt, pick_min, hcm, hp1, hp2, hp3, hta1, hta2, r1, r2, r3, n1, n2, n3] <;> rfl) ?_)
          iterate 2 (refine Run.o1 (by simp only [go_sem, hmd, ge_iff_le, gt_iff_lt, pick_min, hcm, hp1, hp2, hp3, hta1, hta2, r1, r2, r3, n1, n2, n3] <;> rfl) ?_)
          iterate 5 (refine Run.y1 (by simp only [go_sem, hmd, ge_iff_le, gt_iff_lt, pick_min, hcm, hp1, hp2, hp3, hta1, hta2, r1, r2, r3, n1, n2, n3] <;> rfl) ?_)
          refine Run.o1 (by simp only [go_sem, hmd, ge_iff_le, gt_iff_lt, pick_min, hcm, hp1, hp2, hp3, hta1, hta2, r1, r2, r3, n1, n2, n3] <;> rfl) ?_
          refine Run.nil ?_
          refine Exec.cndS (by simp only [go_sem, hmd, ge_iff_le, gt_iff_lt, pick_min, hcm, hp1, hp2, hp3, hta1, hta2, r1, r2, r3, n1, n2, n3] <;> rfl) (fun hb123 => ?_) (fun hb123 => ?_)
          · exact absurd hb123 (by simp)
          · skip
            refine Exec.skipS ?_
            refine Exec.reg ?_
            iterate 3 (refine Run.o1 (by simp only [go_sem, hmd, ge_iff_le, gt_iff_lt, pick_min, hcm, hp1, hp2, hp3, hta1, hta2, r1, r2, r3, n1, n2, n3] <;> rfl) ?_)
            refine Run.nil ?_
            refine Exec.assocS ?_
            refine Exec.reg ?_
            refine Run.o1 (by simp only [go_sem, hmd, ge_iff_le, gt_iff_lt, pick_min, hcm, hp1, hp2, hp3, hta1, hta2, r1, r2, r3, n1, n2, n3] <;> rfl) ?_
            refine Run.nil ?_
            refine Exec.blk ?_
            refine Exec.forA [3, 4, 10, 12, 14, 16, 17, 18, 19] [3, 4] (a.bs.length) (fun k => [.slot 19 (.int k), .slot 16 (.int (penTo a k)), .slot 17 (.int (penTo (acN a (a.ns ++ [n])) k)), .slot 18 (.int (penTo (acN a (a.ns ++ [⟨n.day, n.fig, cm⟩])) k))]) (fun _ => True) (fun k => by simp only [go_sem] <;> rfl) (by simp only [go_sem, hmd, ge_iff_le, gt_iff_lt, pick_min, hcm, hp1, hp2, hp3, hta1, hta2, r1, r2, r3, n1, n2, n3, Int.natCast_zero, hz1, hz2, hz3] <;> rfl) ?_ (fun k hk hX => ?_)
            · trivial
            · skip
              refine Exec.assocS ?_
              refine Exec.reg ?_
              iterate 4 (refine Run.o1 (by simp only [go_sem, hmd, ge_iff_le, gt_iff_lt, pick_min, hcm, hp1, hp2, hp3, hta1, hta2, r1, r2, r3, n1, n2, n3] <;> rfl) ?_)
              refine Run.nil ?_
              refine Exec.cndS (by simp only [go_sem, hmd, ge_iff_le, gt_iff_lt, pick_min, hcm, hp1, hp2, hp3, hta1, hta2, r1, r2, r3, n1, n2, n3] <;> rfl) (fun hb127 => ?_) (fun hb127 => ?_)
              · skip
                have hlt : k < a.bs.length := by have := of_decide_eq_true hb127; omega
                have hk1 : a.bs[k]? = some (bdAt a k) := bs_get hlt
                have bg : ∀ x : Ac, (bllsT x a.bs.length)[k]? = some (blAt x k) := fun x => by unfold bllsT; rw [List.getElem?_map, List.getElem?_range hlt]; rfl
                have k1 := bg a
                have k2 := bg (acN a (a.ns ++ [n]))
                have k3 := bg (acN a (a.ns ++ [⟨n.day, n.fig, cm⟩]))
                have b1 : (blAt a k).pence = penTo a (k + 1) - penTo a k := rfl
                have b2 : (blAt (acN a (a.ns ++ [n])) k).pence = penTo (acN a (a.ns ++ [n])) (k + 1) - penTo (acN a (a.ns ++ [n])) k := rfl
                have b3 : (blAt (acN a (a.ns ++ [⟨n.day, n.fig, cm⟩])) k).pence = penTo (acN a (a.ns ++ [⟨n.day, n.fig, cm⟩])) (k + 1) - penTo (acN a (a.ns ++ [⟨n.day, n.fig, cm⟩])) k := rfl
                have p1 := penTo_bnd v ho1 k (by omega)
                have p2 := penTo_bnd v ho1 (k + 1) (by omega)
                have p3 := penTo_bnd (start_val hs2) ho2 k (Nat.le_of_lt hlt)
                have p4 := penTo_bnd (start_val hs2) ho2 (k + 1) hlt
                have p5 := penTo_bnd (start_val hs3) ho3 k (Nat.le_of_lt hlt)
                have p6 := penTo_bnd (start_val hs3) ho3 (k + 1) hlt
                have s1 : penTo a k + (penTo a (k + 1) - penTo a k) = penTo a (k + 1) := by omega
                have s2 : penTo (acN a (a.ns ++ [n])) k + (penTo (acN a (a.ns ++ [n])) (k + 1) - penTo (acN a (a.ns ++ [n])) k) = penTo (acN a (a.ns ++ [n])) (k + 1) := by omega
                have s3 : penTo (acN a (a.ns ++ [⟨n.day, n.fig, cm⟩])) k + (penTo (acN a (a.ns ++ [⟨n.day, n.fig, cm⟩])) (k + 1) - penTo (acN a (a.ns ++ [⟨n.day, n.fig, cm⟩])) k) = penTo (acN a (a.ns ++ [⟨n.day, n.fig, cm⟩])) (k + 1) := by omega
                refine Exec.skipS ?_
                refine Exec.blk ?_
                refine Exec.opk 26 ?_
                iterate 3 (refine OpenK.o1 (by simp only [go_sem, hmd, ge_iff_le, gt_iff_lt, pick_min, hcm, hp1, hp2, hp3, hta1, hta2, r1, r2, r3, n1, n2, n3, hk1, k1, k2, k3, b1, b2, b3, s1, s2, s3] <;> rfl) ?_)
                refine OpenK.o1 (by simp only [go_sem, hmd, ge_iff_le, gt_iff_lt, pick_min, hcm, hp1, hp2, hp3, hta1, hta2, r1, r2, r3, n1, n2, n3, hk1, k1, k2, k3, b1, b2, b3, s1, s2, s3]; (try simp (disch := omega) only [if_pos]); (try simp only [go_sem, hmd, ge_iff_le, gt_iff_lt, pick_min, hcm, hp1, hp2, hp3, hta1, hta2, r1, r2, r3, n1, n2, n3, hk1, k1, k2, k3, b1, b2, b3, s1, s2, s3])<;> rfl) ?_
                iterate 2 (refine OpenK.o1 (by simp only [go_sem, hmd, ge_iff_le, gt_iff_lt, pick_min, hcm, hp1, hp2, hp3, hta1, hta2, r1, r2, r3, n1, n2, n3, hk1, k1, k2, k3, b1, b2, b3, s1, s2, s3] <;> rfl) ?_)
                refine OpenK.o1 (by simp only [go_sem, hmd, ge_iff_le, gt_iff_lt, pick_min, hcm, hp1, hp2, hp3, hta1, hta2, r1, r2, r3, n1, n2, n3, hk1, k1, k2, k3, b1, b2, b3, s1, s2, s3]; (try simp (disch := omega) only [IntWalk.i64_in, IntWalk.u64_in, if_neg, if_pos])<;> rfl) ?_
                iterate 3 (refine OpenK.o1 (by simp only [go_sem, hmd, ge_iff_le, gt_iff_lt, pick_min, hcm, hp1, hp2, hp3, hta1, hta2, r1, r2, r3, n1, n2, n3, hk1, k1, k2, k3, b1, b2, b3, s1, s2, s3] <;> rfl) ?_)
                refine OpenK.o1 (by simp only [go_sem, hmd, ge_iff_le, gt_iff_lt, pick_min, hcm, hp1, hp2, hp3, hta1, hta2, r1, r2, r3, n1, n2, n3, hk1, k1, k2, k3, b1, b2, b3, s1, s2, s3]; (try simp (disch := omega) only [if_pos]); (try simp only [go_sem, hmd, ge_iff_le, gt_iff_lt, pick_min, hcm, hp1, hp2, hp3, hta1, hta2, r1, r2, r3, n1, n2, n3, hk1, k1, k2, k3, b1, b2, b3, s1, s2, s3])<;> rfl) ?_
                iterate 2 (refine OpenK.o1 (by simp only [go_sem, hmd, ge_iff_le, gt_iff_lt, pick_min, hcm, hp1, hp2, hp3, hta1, hta2, r1, r2, r3, n1, n2, n3, hk1, k1, k2, k3, b1, b2, b3, s1, s2, s3] <;> rfl) ?_)
                refine OpenK.o1 (by simp only [go_sem, hmd, ge_iff_le, gt_iff_lt, pick_min, hcm, hp1, hp2, hp3, hta1, hta2, r1, r2, r3, n1, n2, n3, hk1, k1, k2, k3, b1, b2, b3, s1, s2, s3]; (try simp (disch := omega) only [IntWalk.i64_in, IntWalk.u64_in, if_neg, if_pos])<;> rfl) ?_
                iterate 3 (refine OpenK.o1 (by simp only [go_sem, hmd, ge_iff_le, gt_iff_lt, pick_min, hcm, hp1, hp2, hp3, hta1, hta2, r1, r2, r3, n1, n2, n3, hk1, k1, k2, k3, b1, b2, b3, s1, s2, s3] <;> rfl) ?_)
                refine OpenK.o1 (by simp only [go_sem, hmd, ge_iff_le, gt_iff_lt, pick_min, hcm, hp1, hp2, hp3, hta1, hta2, r1, r2, r3, n1, n2, n3, hk1, k1, k2, k3, b1, b2, b3, s1, s2, s3]; (try simp (disch := omega) only [if_pos]); (try simp only [go_sem, hmd, ge_iff_le, gt_iff_lt, pick_min, hcm, hp1, hp2, hp3, hta1, hta2, r1, r2, r3, n1, n2, n3, hk1, k1, k2, k3, b1, b2, b3, s1, s2, s3])<;> rfl) ?_
                iterate 2 (refine OpenK.o1 (by simp only [go_sem, hmd, ge_iff_le, gt_iff_lt, pick_min, hcm, hp1, hp2, hp3, hta1, hta2, r1, r2, r3, n1, n2, n3, hk1, k1, k2, k3, b1, b2, b3, s1, s2, s3] <;> rfl) ?_)
                refine OpenK.o1 (by simp only [go_sem, hmd, ge_iff_le, gt_iff_lt, pick_min, hcm, hp1, hp2, hp3, hta1, hta2, r1, r2, r3, n1, n2, n3, hk1, k1, k2, k3, b1, b2, b3, s1, s2, s3]; (try simp (disch := omega) only [IntWalk.i64_in, IntWalk.u64_in, if_neg, if_pos])<;> rfl) ?_
                iterate 3 (refine OpenK.o1 (by simp only [go_sem, hmd, ge_iff_le, gt_iff_lt, pick_min, hcm, hp1, hp2, hp3, hta1, hta2, r1, r2, r3, n1, n2, n3, hk1, k1, k2, k3, b1, b2, b3, s1, s2, s3] <;> rfl) ?_)
                refine OpenK.nil (OpenE.finT (by kernel_rfl) (by kernel_rfl) (by kernel_rfl) ?_)
                refine Exec.assocS ?_
                by_cases hl : bdAt a k < cm
                · skip
                  have g1 : decide (bdAt a k < cm) = true := decide_eq_true hl
                  have g2 : decide (cm ≤ bdAt a k) = false := decide_eq_false (by omega)
                  have hbl := late_bl (m := ⟨n.day, n.fig, cm⟩) v hs1 hs3 hlt hl
                  refine Exec.opk 21 ?_
                  iterate 3 (refine OpenK.o1 (by simp only [go_sem, hmd, ge_iff_le, gt_iff_lt, pick_min, hcm, hp1, hp2, hp3, hta1, hta2, r1, r2, r3, n1, n2, n3, hk1, k1, k2, k3, b1, b2, b3, s1, s2, s3, g1, g2, hbl] <;> rfl) ?_)
                  refine OpenK.o1 (by simp only [go_sem, hmd, ge_iff_le, gt_iff_lt, pick_min, hcm, hp1, hp2, hp3, hta1, hta2, r1, r2, r3, n1, n2, n3, hk1, k1, k2, k3, b1, b2, b3, s1, s2, s3, g1, g2, hbl]; (try simp (disch := omega) only [if_pos]); (try simp only [go_sem, hmd, ge_iff_le, gt_iff_lt, pick_min, hcm, hp1, hp2, hp3, hta1, hta2, r1, r2, r3, n1, n2, n3, hk1, k1, k2, k3, b1, b2, b3, s1, s2, s3, g1, g2, hbl])<;> rfl) ?_
                  iterate 5 (refine OpenK.o1 (by simp only [go_sem, hmd, ge_iff_le, gt_iff_lt, pick_min, hcm, hp1, hp2, hp3, hta1, hta2, r1, r2, r3, n1, n2, n3, hk1, k1, k2, k3, b1, b2, b3, s1, s2, s3, g1, g2, hbl] <;> rfl) ?_)
                  iterate 2 (refine OpenK.y1 (by simp only [go_sem, hmd, ge_iff_le, gt_iff_lt, pick_min, hcm, hp1, hp2, hp3, hta1, hta2, r1, r2, r3, n1, n2, n3, hk1, k1, k2, k3, b1, b2, b3, s1, s2, s3, g1, g2, hbl] <;> rfl) ?_)
                  refine OpenK.y1 (by simp only [go_sem, hmd, ge_iff_le, gt_iff_lt, pick_min, hcm, hp1, hp2, hp3, hta1, hta2, r1, r2, r3, n1, n2, n3, hk1, k1, k2, k3, b1, b2, b3, s1, s2, s3, g1, g2, hbl]; (try simp (disch := omega) only [if_pos]); (try simp only [go_sem, hmd, ge_iff_le, gt_iff_lt, pick_min, hcm, hp1, hp2, hp3, hta1, hta2, r1, r2, r3, n1, n2, n3, hk1, k1, k2, k3, b1, b2, b3, s1, s2, s3, g1, g2, hbl])<;> rfl) ?_
                  iterate 3 (refine OpenK.y1 (by simp only [go_sem, hmd, ge_iff_le, gt_iff_lt, pick_min, hcm, hp1, hp2, hp3, hta1, hta2, r1, r2, r3, n1, n2, n3, hk1, k1, k2, k3, b1, b2, b3, s1, s2, s3, g1, g2, hbl] <;> rfl) ?_)
                  refine OpenK.y1 (by simp only [go_sem, hmd, ge_iff_le, gt_iff_lt, pick_min, hcm, hp1, hp2, hp3, hta1, hta2, r1, r2, r3, n1, n2, n3, hk1, k1, k2, k3, b1, b2, b3, s1, s2, s3, g1, g2, hbl]; (try simp (disch := omega) only [if_pos]); (try simp only [go_sem, hmd, ge_iff_le, gt_iff_lt, pick_min, hcm, hp1, hp2, hp3, hta1, hta2, r1, r2, r3, n1, n2, n3, hk1, k1, k2, k3, b1, b2, b3, s1, s2, s3, g1, g2, hbl])<;> rfl) ?_
                  iterate 2 (refine OpenK.y1 (by simp only [go_sem, hmd, ge_iff_le, gt_iff_lt, pick_min, hcm, hp1, hp2, hp3, hta1, hta2, r1, r2, r3, n1, n2, n3, hk1, k1, k2, k3, b1, b2, b3, s1, s2, s3, g1, g2, hbl] <;> rfl) ?_)
                  refine OpenK.o1 (by simp only [go_sem, hmd, ge_iff_le, gt_iff_lt, pick_min, hcm, hp1, hp2, hp3, hta1, hta2, r1, r2, r3, n1, n2, n3, hk1, k1, k2, k3, b1, b2, b3, s1, s2, s3, g1, g2, hbl] <;> rfl) ?_
                  refine OpenK.nil (OpenE.finT (by kernel_rfl) (by kernel_rfl) (by kernel_rfl) ?_)
                  refine Exec.cndS (by simp only [go_sem, hmd, ge_iff_le, gt_iff_lt, pick_min, hcm, hp1, hp2, hp3, hta1, hta2, r1, r2, r3, n1, n2, n3, hk1, k1, k2, k3, b1, b2, b3, s1, s2, s3, g1, g2, hbl] <;> rfl) (fun hb169 => ?_) (fun hb169 => ?_)
                  · exact absurd hb169 (by simp)
                  · skip
                    refine Exec.skipS ?_
                    refine Exec.opk 15 ?_
                    iterate 3 (refine OpenK.o1 (by simp only [go_sem, hmd, ge_iff_le, gt_iff_lt, pick_min, hcm, hp1, hp2, hp3, hta1, hta2, r1, r2, r3, n1, n2, n3, hk1, k1, k2, k3, b1, b2, b3, s1, s2, s3, g1, g2, hbl] <;> rfl) ?_)
                    refine OpenK.o1 (by simp only [go_sem, hmd, ge_iff_le, gt_iff_lt, pick_min, hcm, hp1, hp2, hp3, hta1, hta2, r1, r2, r3, n1, n2, n3, hk1, k1, k2, k3, b1, b2, b3, s1, s2, s3, g1, g2, hbl]; (try simp (disch := omega) only [if_pos]); (try simp only [go_sem, hmd, ge_iff_le, gt_iff_lt, pick_min, hcm, hp1, hp2, hp3, hta1, hta2, r1, r2, r3, n1, n2, n3, hk1, k1, k2, k3, b1, b2, b3, s1, s2, s3, g1, g2, hbl])<;> rfl) ?_
                    iterate 5 (refine OpenK.o1 (by simp only [go_sem, hmd, ge_iff_le, gt_iff_lt, pick_min, hcm, hp1, hp2, hp3, hta1, hta2, r1, r2, r3, n1, n2, n3, hk1, k1, k2, k3, b1, b2, b3, s1, s2, s3, g1, g2, hbl] <;> rfl) ?_)
                    iterate 3 (refine OpenK.s ?_)
                    refine OpenK.o1 (by simp only [go_sem, hmd, ge_iff_le, gt_iff_lt, pick_min, hcm, hp1, hp2, hp3, hta1, hta2, r1, r2, r3, n1, n2, n3, hk1, k1, k2, k3, b1, b2, b3, s1, s2, s3, g1, g2, hbl] <;> rfl) ?_
                    refine OpenK.nil (OpenE.fin (by decide +kernel) (by decide +kernel) ?_)
                    refine Exec.cnd (by simp only [go_sem, hmd, ge_iff_le, gt_iff_lt, pick_min, hcm, hp1, hp2, hp3, hta1, hta2, r1, r2, r3, n1, n2, n3, hk1, k1, k2, k3, b1, b2, b3, s1, s2, s3, g1, g2, hbl] <;> rfl) (fun hb182 => ?_) (fun hb182 => ?_)
                    · exact absurd hb182 (by simp)
                    · skip
                      refine BlkK.nrm ?_
                      refine Exec.reg1 ?_
                      refine Run.o1 (by simp only [go_sem, hmd, ge_iff_le, gt_iff_lt, pick_min, hcm, hp1, hp2, hp3, hta1, hta2, r1, r2, r3, n1, n2, n3, hk1, k1, k2, k3, b1, b2, b3, s1, s2, s3, g1, g2, hbl] <;> rfl) ?_
                      refine Run.o1 (by simp only [go_sem, hmd, ge_iff_le, gt_iff_lt, pick_min, hcm, hp1, hp2, hp3, hta1, hta2, r1, r2, r3, n1, n2, n3, hk1, k1, k2, k3, b1, b2, b3, s1, s2, s3, g1, g2, hbl]; (try simp (disch := omega) only [IntWalk.i64_in, IntWalk.u64_in, if_neg, if_pos])<;> rfl) ?_
                      refine Run.o1 (by simp only [go_sem, hmd, ge_iff_le, gt_iff_lt, pick_min, hcm, hp1, hp2, hp3, hta1, hta2, r1, r2, r3, n1, n2, n3, hk1, k1, k2, k3, b1, b2, b3, s1, s2, s3, g1, g2, hbl] <;> rfl) ?_
                      refine Run.nil ?_
                      refine ForK.nxt ?_ ?_ ?_
                      · omega
                      · exact Ghost.kp [3, 4, 10, 12, 14, 16, 17, 18, 19] [3, 4] (by simp only [go_sem, hmd, ge_iff_le, gt_iff_lt, pick_min, hcm, hp1, hp2, hp3, hta1, hta2, r1, r2, r3, n1, n2, n3, hk1, k1, k2, k3, b1, b2, b3, s1, s2, s3, g1, g2, hbl] <;> first | exact eqz | rfl)
                      · trivial
                · skip
                  have g1 : decide (bdAt a k < cm) = false := decide_eq_false hl
                  have g2 : decide (cm ≤ bdAt a k) = true := decide_eq_true (by omega)
                  have hpn := late_pen (n := n) (m := ⟨n.day, n.fig, cm⟩) rfl rfl hcl hown hs2 hs3 (k := k) (by show cm ≤ _; omega)
                  refine Exec.opk 21 ?_
                  iterate 3 (refine OpenK.o1 (by simp only [go_sem, hmd, ge_iff_le, gt_iff_lt, pick_min, hcm, hp1, hp2, hp3, hta1, hta2, r1, r2, r3, n1, n2, n3, hk1, k1, k2, k3, b1, b2, b3, s1, s2, s3, g1, g2, hpn] <;> rfl) ?_)
                  refine OpenK.o1 (by simp only [go_sem, hmd, ge_iff_le, gt_iff_lt, pick_min, hcm, hp1, hp2, hp3, hta1, hta2, r1, r2, r3, n1, n2, n3, hk1, k1, k2, k3, b1, b2, b3, s1, s2, s3, g1, g2, hpn]; (try simp (disch := omega) only [if_pos]); (try simp only [go_sem, hmd, ge_iff_le, gt_iff_lt, pick_min, hcm, hp1, hp2, hp3, hta1, hta2, r1, r2, r3, n1, n2, n3, hk1, k1, k2, k3, b1, b2, b3, s1, s2, s3, g1, g2, hpn])<;> rfl) ?_
                  iterate 5 (refine OpenK.o1 (by simp only [go_sem, hmd, ge_iff_le, gt_iff_lt, pick_min, hcm, hp1, hp2, hp3, hta1, hta2, r1, r2, r3, n1, n2, n3, hk1, k1, k2, k3, b1, b2, b3, s1, s2, s3, g1, g2, hpn] <;> rfl) ?_)
                  iterate 9 (refine OpenK.s ?_)
                  refine OpenK.o1 (by simp only [go_sem, hmd, ge_iff_le, gt_iff_lt, pick_min, hcm, hp1, hp2, hp3, hta1, hta2, r1, r2, r3, n1, n2, n3, hk1, k1, k2, k3, b1, b2, b3, s1, s2, s3, g1, g2, hpn] <;> rfl) ?_
                  refine OpenK.nil (OpenE.finT (by kernel_rfl) (by kernel_rfl) (by kernel_rfl) ?_)
                  refine Exec.cndS (by simp only [go_sem, hmd, ge_iff_le, gt_iff_lt, pick_min, hcm, hp1, hp2, hp3, hta1, hta2, r1, r2, r3, n1, n2, n3, hk1, k1, k2, k3, b1, b2, b3, s1, s2, s3, g1, g2, hpn] <;> rfl) (fun hb169 => ?_) (fun hb169 => ?_)
                  · exact absurd hb169 (by simp)
                  · skip
                    refine Exec.skipS ?_
                    refine Exec.opk 15 ?_
                    iterate 3 (refine OpenK.o1 (by simp only [go_sem, hmd, ge_iff_le, gt_iff_lt, pick_min, hcm, hp1, hp2, hp3, hta1, hta2, r1, r2, r3, n1, n2, n3, hk1, k1, k2, k3, b1, b2, b3, s1, s2, s3, g1, g2, hpn] <;> rfl) ?_)
                    refine OpenK.o1 (by simp only [go_sem, hmd, ge_iff_le, gt_iff_lt, pick_min, hcm, hp1, hp2, hp3, hta1, hta2, r1, r2, r3, n1, n2, n3, hk1, k1, k2, k3, b1, b2, b3, s1, s2, s3, g1, g2, hpn]; (try simp (disch := omega) only [if_pos]); (try simp only [go_sem, hmd, ge_iff_le, gt_iff_lt, pick_min, hcm, hp1, hp2, hp3, hta1, hta2, r1, r2, r3, n1, n2, n3, hk1, k1, k2, k3, b1, b2, b3, s1, s2, s3, g1, g2, hpn])<;> rfl) ?_
                    iterate 5 (refine OpenK.o1 (by simp only [go_sem, hmd, ge_iff_le, gt_iff_lt, pick_min, hcm, hp1, hp2, hp3, hta1, hta2, r1, r2, r3, n1, n2, n3, hk1, k1, k2, k3, b1, b2, b3, s1, s2, s3, g1, g2, hpn] <;> rfl) ?_)
                    iterate 3 (refine OpenK.y1 (by simp only [go_sem, hmd, ge_iff_le, gt_iff_lt, pick_min, hcm, hp1, hp2, hp3, hta1, hta2, r1, r2, r3, n1, n2, n3, hk1, k1, k2, k3, b1, b2, b3, s1, s2, s3, g1, g2, hpn] <;> rfl) ?_)
                    refine OpenK.o1 (by simp only [go_sem, hmd, ge_iff_le, gt_iff_lt, pick_min, hcm, hp1, hp2, hp3, hta1, hta2, r1, r2, r3, n1, n2, n3, hk1, k1, k2, k3, b1, b2, b3, s1, s2, s3, g1, g2, hpn] <;> rfl) ?_
                    refine OpenK.nil (OpenE.fin (by decide +kernel) (by decide +kernel) ?_)
                    refine Exec.cnd (by simp only [go_sem, hmd, ge_iff_le, gt_iff_lt, pick_min, hcm, hp1, hp2, hp3, hta1, hta2, r1, r2, r3, n1, n2, n3, hk1, k1, k2, k3, b1, b2, b3, s1, s2, s3, g1, g2, hpn] <;> rfl) (fun hb182 => ?_) (fun hb182 => ?_)
                    · exact absurd hb182 (by simp)
                    · skip
                      refine BlkK.nrm ?_
                      refine Exec.reg1 ?_
                      refine Run.o1 (by simp only [go_sem, hmd, ge_iff_le, gt_iff_lt, pick_min, hcm, hp1, hp2, hp3, hta1, hta2, r1, r2, r3, n1, n2, n3, hk1, k1, k2, k3, b1, b2, b3, s1, s2, s3, g1, g2, hpn] <;> rfl) ?_
                      refine Run.o1 (by simp only [go_sem, hmd, ge_iff_le, gt_iff_lt, pick_min, hcm, hp1, hp2, hp3, hta1, hta2, r1, r2, r3, n1, n2, n3, hk1, k1, k2, k3, b1, b2, b3, s1, s2, s3, g1, g2, hpn]; (try simp (disch := omega) only [IntWalk.i64_in, IntWalk.u64_in, if_neg, if_pos])<;> rfl) ?_
                      refine Run.o1 (by simp only [go_sem, hmd, ge_iff_le, gt_iff_lt, pick_min, hcm, hp1, hp2, hp3, hta1, hta2, r1, r2, r3, n1, n2, n3, hk1, k1, k2, k3, b1, b2, b3, s1, s2, s3, g1, g2, hpn] <;> rfl) ?_
                      refine Run.nil ?_
                      refine ForK.nxt ?_ ?_ ?_
                      · omega
                      · exact Ghost.kp [3, 4, 10, 12, 14, 16, 17, 18, 19] [3, 4] (by simp only [go_sem, hmd, ge_iff_le, gt_iff_lt, pick_min, hcm, hp1, hp2, hp3, hta1, hta2, r1, r2, r3, n1, n2, n3, hk1, k1, k2, k3, b1, b2, b3, s1, s2, s3, g1, g2, hpn] <;> first | exact eqz | rfl)
                      · trivial
              · skip
                refine Exec.exitS ?_
                refine ForK.ext ?_
                refine BlkK.hit ?_
                refine Exec.reg ?_
                refine Run.c1 (c_law_awake) (by simp only [go_sem, hmd, ge_iff_le, gt_iff_lt, pick_min, hcm, hp1, hp2, hp3, hta1, hta2, r1, r2, r3, n1, n2, n3] <;> rfl) (by simp only [go_sem, hmd, ge_iff_le, gt_iff_lt, pick_min, hcm, hp1, hp2, hp3, hta1, hta2, r1, r2, r3, n1, n2, n3] <;> rfl) ?_
                refine Run.o1 (by simp only [go_sem, hmd, ge_iff_le, gt_iff_lt, pick_min, hcm, hp1, hp2, hp3, hta1, hta2, r1, r2, r3, n1, n2, n3] <;> rfl) ?_
                refine Run.nil ?_
                exact Ends.fin [] (rs := [.tmp 6]) rfl (by simp only [go_sem, hmd, ge_iff_le, gt_iff_lt, pick_min, hcm, hp1, hp2, hp3, hta1, hta2, r1, r2, r3, n1, n2, n3] <;> rfl) (by simp only [go_sem, hmd, ge_iff_le, gt_iff_lt, pick_min, hcm, hp1, hp2, hp3, hta1, hta2, r1, r2, r3, n1, n2, n3] <;> first | rfl | exact eqz)

end Go.Mw
namespace Go.Proofs.Ytabfdgdckmhhgaa
open Go.Mw Go.ChangeShapes Go.WideShapes Go.ChangeAt Go.RowKit

theorem own : ownKnob Try.prog.godebug = none := by kernel_rfl
theorem laidOut : laidOutB Try.prog = true := by kernel_rfl
set_option maxRecDepth 100000 in
theorem lifted (os : Os) (started : os.Started) (H : Type) (enc : TypeId × Value → H) :
    ReturnsInHanded {} Try.checked os 6 .any (Rows.billLateSpec.pre6 enc Try.prog Try.f6 Rows.billLateRow.domain false) (Rows.billLateSpec.post enc Try.prog Try.f6 false true false false) := by
  refine returnsInHanded_of_change (C := Try.checked) own started (by kernel_rfl) Try.func6
    (ChangeSpec.witness6 (enc := enc) (C := Try.checked) false ⟨#[], #[.agg #[.int .i64 0, .int .i64 0, .int .i64 0, .int .i64 0, .slice none 0 0, .slice none 0 0, .slice none 0 0, .slice none 0 0], .agg #[.int .i64 0, .int .i64 0, .int .i64 0], .int .u16 0], []⟩ 8 (by kernel_rfl) (by kernel_rfl) (by kernel_rfl) (by kernel_rfl)) ?_
  intro W base args ds gs before hval0 hW hcnd _
  have hval : ∀ (j : Nat) t v, Try.f6.params[j]? = some t → args[j]? = some v → Value.okWide Try.prog W .any base t v := hval0
  have hW' := hW
  obtain ⟨p, q, hA0, hV, rfl, hfz, hnd⟩ := hW
  have hA : DataW.TrodAll enc Try.prog W 0 (fun _ => true) true Try.f6.params.toList args.toList ds p := hA0
  rw [Try.params6] at hA hval
  obtain ⟨v0, v1, v2, d0, d1, d2, p0, p1, p2, rfl, rfl, rfl, h0, h1, h2⟩ := trodAll_three hA
  obtain ⟨rfl, rfl⟩ := trodVars_none hV
  obtain ⟨x0, hx0⟩ := ac_read (hval 0 27 v0 rfl rfl) h0
  obtain ⟨x1, hx1⟩ := nt_read (hval 1 42 v1 rfl rfl) h1
  obtain ⟨x2, hb2, hx2⟩ := u16_read (P := Try.prog) (by kernel_rfl) (hval 2 43 v2 rfl rfl) h2
  refine (row_con (c_law_BillLate x0 x1 x2 (by omega)) W [v0, v1, v2] ⟨hx0, hx1, hx2, trivial⟩).mono fun e W' ⟨he, hb⟩ => ?_
  exact ⟨_, he, post_below (tb := 4) hW' hb rfl rfl rfl (by kernel_rfl) laidOut (by decide +kernel)⟩
theorem holds : Rows.BillLateSaid :=
  OpenClaim.holds_of_wide 6 Try.f6 rfl rfl rfl rfl rfl rfl rfl ⟨rfl, rfl, rfl, rfl, rfl⟩ rfl rfl rfl rfl rfl (by kernel_rfl) Try.func6 (by kernel_rfl)
    (of_decide_eq_true (by kernel_rfl)) (by unfold Func.isWrapper; first | (rw [if_pos (by decide +kernel)]; kernel_rfl) | (rw [if_neg (by decide +kernel)]; exact ⟨rfl, rfl⟩))
    (fun os started H enc _ => lifted os started H enc)
end Go.Proofs.Ytabfdgdckmhhgaa
#print axioms Go.Proofs.Ytabfdgdckmhhgaa.holds

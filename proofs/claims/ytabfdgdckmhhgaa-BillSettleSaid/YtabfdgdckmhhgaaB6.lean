/- Contracts of the functions that the bill reaches: notes that count. -/
import Derived.Test.YtabfdgdckmhhgaaB5
import Derived.Test.YtabfdgdckmhhgaaB4
set_option linter.unusedSimpArgs false
set_option linter.unusedVariables false
set_option linter.unusedSectionVars false
set_option linter.deprecated false
namespace Go.Mw
open Go.Proofs
open Go.Bi
attribute [local go_sem] decide_true beq_self_eq_true bne_self_eq_false
theorem nt_get {l : List Nt} {i : Nat} (h : i < l.length) : l[i]? = some (l.getD i default) := by rw [List.getElem?_eq_getElem h]; simp [List.getD, List.getElem?_eq_getElem h]
theorem pick_max (x y : Int) : pick2 false x y = max x y := by
  show (if x < y then y else x) = _
  split <;> omega
theorem pick_min (x y : Int) : pick2 true x y = min x y := by
  show (if y < x then y else x) = _
  split <;> omega
def bigB (a : Ac) : Bool := decide (10 < (a.ts.length : Int)) || decide (16 < (a.bs.length : Int)) || decide (30 < (a.ns.length : Int)) || decide (8 < (a.ds.length : Int))
set_option maxRecDepth 20000 in
/-- meterworks/meterworkslaw13.large -/
theorem c_law_large (a : Ac) : Contract Try.prog 10 [acV a] (.bool (bigB a)) [] := by
  refine con_of follows_mixed Try.func10 rfl (by simp only [List.length_cons, List.length_nil, Try.ntmps10]; omega) (by kernel_rfl) rfl ?_
  refine Exec.reg ?_
  iterate 2 (refine Run.o1 (by simp only [go_sem, bigB, gt_iff_lt] <;> rfl) ?_)
  refine Run.nil ?_
  refine Exec.reg ?_
  iterate 5 (refine Run.o1 (by simp only [go_sem, bigB, gt_iff_lt] <;> rfl) ?_)
  iterate 4 (refine Run.gop (by simp only [go_sem] <;> rfl) (by simp only [go_sem, bigB, gt_iff_lt] <;> rfl) (by simp only [go_sem] <;> rfl) ?_)
  iterate 2 (refine Run.o1 (by simp only [go_sem, bigB, gt_iff_lt] <;> rfl) ?_)
  iterate 4 (refine Run.gop (by simp only [go_sem] <;> rfl) (by simp only [go_sem, bigB, gt_iff_lt] <;> rfl) (by simp only [go_sem] <;> rfl) ?_)
  iterate 2 (refine Run.o1 (by simp only [go_sem, bigB, gt_iff_lt] <;> rfl) ?_)
  iterate 4 (refine Run.gop (by simp only [go_sem] <;> rfl) (by simp only [go_sem, bigB, gt_iff_lt] <;> rfl) (by simp only [go_sem] <;> rfl) ?_)
  iterate 2 (refine Run.o1 (by simp only [go_sem, bigB, gt_iff_lt] <;> rfl) ?_)
  refine Run.nil ?_
  exact Ends.fin [] (rs := [.tmp 2]) rfl (by simp only [go_sem, bigB, gt_iff_lt] <;> rfl) (by simp only [go_sem, bigB, gt_iff_lt] <;> first | rfl | exact eqz)

set_option maxRecDepth 20000 in
set_option maxHeartbeats 4000000 in
/-- meterworks/meterworksref13.counts -/
theorem c_ref_counts (a : Ac) (i : Nat) (known : Int) (hi : i < a.ns.length) (hl : a.ns.length ≤ 100) : Contract Try.prog 41 [acV a, .int i, .int known] (.bool (cnts a.ns known i)) [] := by
  have hni := nt_get hi
  refine con_of follows_mixed Try.func41 rfl (by simp only [List.length_cons, List.length_nil, Try.ntmps41]; omega) (by kernel_rfl) rfl ?_
  refine Exec.reg ?_
  iterate 2 (refine Run.o1 (by simp only [go_sem, hni, gt_iff_lt] <;> rfl) ?_)
  refine Run.nil ?_
  refine Exec.reg ?_
  iterate 3 (refine Run.o1 (by simp only [go_sem, hni, gt_iff_lt] <;> rfl) ?_)
  refine Run.o1 (by simp only [go_sem, hni, gt_iff_lt]; (try simp (disch := omega) only [if_pos]); (try simp only [go_sem, hni, gt_iff_lt])<;> rfl) ?_
  iterate 3 (refine Run.o1 (by simp only [go_sem, hni, gt_iff_lt] <;> rfl) ?_)
  refine Run.nil ?_
  refine Exec.assocS ?_
  refine Exec.reg ?_
  iterate 4 (refine Run.o1 (by simp only [go_sem, hni, gt_iff_lt] <;> rfl) ?_)
  refine Run.nil ?_
  refine Exec.cndS (by simp only [go_sem, hni, gt_iff_lt] <;> rfl) (fun hb18 => ?_) (fun hb18 => ?_)
  · skip
    have hc : known < (a.ns.getD i default).came := by simpa using hb18
    have hr : cnts a.ns known i = false := by unfold cnts; rw [decide_eq_false (by omega), Bool.false_and]
    refine Exec.assocS ?_
    refine Exec.reg ?_
    refine Run.o1 (by simp only [go_sem, hni, gt_iff_lt, hr] <;> rfl) ?_
    refine Run.nil ?_
    refine Exec.retS ?_
    exact Ends.fin [] (rs := [.tmp 6]) rfl (by simp only [go_sem, hni, gt_iff_lt, hr] <;> rfl) (by simp only [go_sem, hni, gt_iff_lt, hr] <;> first | rfl | exact eqz)
  · skip
    have hc : (a.ns.getD i default).came ≤ known := by have := hb18; simp only [decide_eq_false_iff_not] at this; omega
    refine Exec.skipS ?_
    refine Exec.assocS ?_
    refine Exec.reg ?_
    refine Run.o1 (by simp only [go_sem, hni, gt_iff_lt] <;> rfl) ?_
    refine Run.nil ?_
    refine Exec.blk ?_
    refine Exec.forA [1, 2, 3, 7, 8] [3, 7] (a.ns.length) (fun k => [.slot 8 (.int k)]) (fun k => (List.range k).any (fun k => outs known (a.ns.getD i default) i (a.ns.getD k default) k) = false) (fun k => by simp only [go_sem] <;> rfl) (by simp only [go_sem, hni, gt_iff_lt] <;> rfl) ?_ (fun k hk hX => ?_)
    · rfl
    · skip
      refine Exec.assocS ?_
      refine Exec.reg ?_
      iterate 5 (refine Run.o1 (by simp only [go_sem, hni, gt_iff_lt] <;> rfl) ?_)
      refine Run.nil ?_
      refine Exec.cndS (by simp only [go_sem, hni, gt_iff_lt] <;> rfl) (fun hb23 => ?_) (fun hb23 => ?_)
      · skip
        have hlt := lt_of_dec hb23
        have hnk := nt_get hlt
        refine Exec.skipS ?_
        refine Exec.blk ?_
        refine Exec.reg ?_
        iterate 3 (refine Run.o1 (by simp only [go_sem, hni, gt_iff_lt, hnk] <;> rfl) ?_)
        refine Run.o1 (by simp only [go_sem, hni, gt_iff_lt, hnk]; (try simp (disch := omega) only [if_pos]); (try simp only [go_sem, hni, gt_iff_lt, hnk])<;> rfl) ?_
        iterate 3 (refine Run.o1 (by simp only [go_sem, hni, gt_iff_lt, hnk] <;> rfl) ?_)
        refine Run.nil ?_
        by_cases hA : ((a.ns.getD k default).day == (a.ns.getD i default).day && decide ((a.ns.getD k default).came ≤ known)) = true
        · skip
          by_cases hB : (a.ns.getD i default).came < (a.ns.getD k default).came
          · skip
            have hB2 : decide ((a.ns.getD i default).came < (a.ns.getD k default).came) = true := decide_eq_true hB
            refine Exec.reg ?_
            iterate 6 (refine Run.o1 (by simp only [go_sem, hni, gt_iff_lt, hnk, hA, Bool.true_and, hB2, Bool.true_or] <;> rfl) ?_)
            iterate 4 (refine Run.gop (by simp only [go_sem] <;> rfl) (by simp only [go_sem, hni, gt_iff_lt, hnk, hA, Bool.true_and, hB2, Bool.true_or] <;> rfl) (by simp only [go_sem] <;> rfl) ?_)
            iterate 2 (refine Run.o1 (by simp only [go_sem, hni, gt_iff_lt, hnk, hA, Bool.true_and, hB2, Bool.true_or] <;> rfl) ?_)
            iterate 6 (refine Run.y1 (by simp only [go_sem, hni, gt_iff_lt, hnk, hA, Bool.true_and, hB2, Bool.true_or] <;> rfl) ?_)
            iterate 10 (refine Run.s ?_)
            refine Run.y1 (by simp only [go_sem, hni, gt_iff_lt, hnk, hA, Bool.true_and, hB2, Bool.true_or] <;> rfl) ?_
            refine Run.o1 (by simp only [go_sem, hni, gt_iff_lt, hnk, hA, Bool.true_and, hB2, Bool.true_or] <;> rfl) ?_
            refine Run.nil ?_
            refine Exec.cnd (by simp only [go_sem, hni, gt_iff_lt, hnk, hA, Bool.true_and, hB2, Bool.true_or] <;> rfl) (fun hb60 => ?_) (fun hb60 => ?_)
            · skip
              have hyes : outs known (a.ns.getD i default) i (a.ns.getD k default) k = true := by unfold outs; simp only [Bool.and_eq_true, Bool.or_eq_true, decide_eq_true_eq, beq_iff_eq] at hA hb60 ⊢; omega
              have hany : (List.range a.ns.length).any (fun k => outs known (a.ns.getD i default) i (a.ns.getD k default) k) = true := List.any_eq_true.2 ⟨k, List.mem_range.2 hlt, hyes⟩
              have hr : cnts a.ns known i = false := by
                unfold cnts
                rw [hany, Bool.not_true, Bool.and_false]
              refine Exec.reg ?_
              refine Run.o1 (by simp only [go_sem, hni, gt_iff_lt, hnk, hA, Bool.true_and, hB2, Bool.true_or, hr] <;> rfl) ?_
              refine Run.nil ?_
              refine BlkK.ret ?_
              refine ForK.ret ?_
              refine BlkK.ret ?_
              exact Ends.fin [] (rs := [.tmp 6]) rfl (by simp only [go_sem, hni, gt_iff_lt, hnk, hA, Bool.true_and, hB2, Bool.true_or, hr] <;> rfl) (by simp only [go_sem, hni, gt_iff_lt, hnk, hA, Bool.true_and, hB2, Bool.true_or, hr] <;> first | rfl | exact eqz)
            · exact absurd hb60 (by simp)
          · skip
            have hB2 : decide ((a.ns.getD i default).came < (a.ns.getD k default).came) = false := decide_eq_false hB
            refine Exec.reg ?_
            iterate 6 (refine Run.o1 (by simp only [go_sem, hni, gt_iff_lt, hnk, hA, Bool.true_and, hB2, Bool.false_or] <;> rfl) ?_)
            iterate 4 (refine Run.gop (by simp only [go_sem] <;> rfl) (by simp only [go_sem, hni, gt_iff_lt, hnk, hA, Bool.true_and, hB2, Bool.false_or] <;> rfl) (by simp only [go_sem] <;> rfl) ?_)
            iterate 2 (refine Run.o1 (by simp only [go_sem, hni, gt_iff_lt, hnk, hA, Bool.true_and, hB2, Bool.false_or] <;> rfl) ?_)
            iterate 12 (refine Run.y1 (by simp only [go_sem, hni, gt_iff_lt, hnk, hA, Bool.true_and, hB2, Bool.false_or] <;> rfl) ?_)
            iterate 3 (refine Run.gop (by simp only [go_sem] <;> rfl) (by simp only [go_sem, hni, gt_iff_lt, hnk, hA, Bool.true_and, hB2, Bool.false_or] <;> rfl) (by simp only [go_sem] <;> rfl) ?_)
            iterate 2 (refine Run.y1 (by simp only [go_sem, hni, gt_iff_lt, hnk, hA, Bool.true_and, hB2, Bool.false_or] <;> rfl) ?_)
            refine Run.o1 (by simp only [go_sem, hni, gt_iff_lt, hnk, hA, Bool.true_and, hB2, Bool.false_or] <;> rfl) ?_
            refine Run.nil ?_
            refine Exec.cnd (by simp only [go_sem, hni, gt_iff_lt, hnk, hA, Bool.true_and, hB2, Bool.false_or] <;> rfl) (fun hb60 => ?_) (fun hb60 => ?_)
            · skip
              have hyes : outs known (a.ns.getD i default) i (a.ns.getD k default) k = true := by unfold outs; simp only [Bool.and_eq_true, Bool.or_eq_true, decide_eq_true_eq, beq_iff_eq] at hA hb60 ⊢; omega
              have hany : (List.range a.ns.length).any (fun k => outs known (a.ns.getD i default) i (a.ns.getD k default) k) = true := List.any_eq_true.2 ⟨k, List.mem_range.2 hlt, hyes⟩
              have hr : cnts a.ns known i = false := by
                unfold cnts
                rw [hany, Bool.not_true, Bool.and_false]
              refine Exec.reg ?_
              refine Run.o1 (by simp only [go_sem, hni, gt_iff_lt, hnk, hA, Bool.true_and, hB2, Bool.false_or, hr] <;> rfl) ?_
              refine Run.nil ?_
              refine BlkK.ret ?_
              refine ForK.ret ?_
              refine BlkK.ret ?_
              exact Ends.fin [] (rs := [.tmp 6]) rfl (by simp only [go_sem, hni, gt_iff_lt, hnk, hA, Bool.true_and, hB2, Bool.false_or, hr] <;> rfl) (by simp only [go_sem, hni, gt_iff_lt, hnk, hA, Bool.true_and, hB2, Bool.false_or, hr] <;> first | rfl | exact eqz)
            · skip
              have hno : outs known (a.ns.getD i default) i (a.ns.getD k default) k = false := by rw [← Bool.not_eq_true]; intro h; rw [← Bool.not_eq_true] at hb60; apply hb60; unfold outs at h; simp only [Bool.and_eq_true, Bool.or_eq_true, decide_eq_true_eq, beq_iff_eq] at hA h ⊢; omega
              refine BlkK.nrm ?_
              refine Exec.reg1 ?_
              refine Run.o1 (by simp only [go_sem, hni, gt_iff_lt, hnk, hA, Bool.true_and, hB2, Bool.false_or] <;> rfl) ?_
              refine Run.o1 (by simp only [go_sem, hni, gt_iff_lt, hnk, hA, Bool.true_and, hB2, Bool.false_or]; (try simp (disch := omega) only [IntWalk.i64_in, IntWalk.u64_in, if_neg, if_pos])<;> rfl) ?_
              refine Run.o1 (by simp only [go_sem, hni, gt_iff_lt, hnk, hA, Bool.true_and, hB2, Bool.false_or] <;> rfl) ?_
              refine Run.nil ?_
              refine ForK.nxt ?_ ?_ ?_
              · omega
              · exact Ghost.kp [1, 2, 3, 7, 8] [3, 7] (by simp only [go_sem, hni, gt_iff_lt, hnk, hA, Bool.true_and, hB2, Bool.false_or] <;> first | exact eqz | rfl)
              · rw [List.range_succ, List.any_append, hX, List.any_cons, List.any_nil, Bool.or_false, Bool.false_or]; exact hno
        · skip
          have hA : ((a.ns.getD k default).day == (a.ns.getD i default).day && decide ((a.ns.getD k default).came ≤ known)) = false := by simpa using hA
          refine Exec.reg ?_
          iterate 6 (refine Run.o1 (by simp only [go_sem, hni, gt_iff_lt, hnk, hA, Bool.false_and] <;> rfl) ?_)
          iterate 4 (refine Run.gop (by simp only [go_sem] <;> rfl) (by simp only [go_sem, hni, gt_iff_lt, hnk, hA, Bool.false_and] <;> rfl) (by simp only [go_sem] <;> rfl) ?_)
          iterate 2 (refine Run.o1 (by simp only [go_sem, hni, gt_iff_lt, hnk, hA, Bool.false_and] <;> rfl) ?_)
          iterate 17 (refine Run.s ?_)
          refine Run.o1 (by simp only [go_sem, hni, gt_iff_lt, hnk, hA, Bool.false_and] <;> rfl) ?_
          refine Run.nil ?_
          refine Exec.cnd (by simp only [go_sem, hni, gt_iff_lt, hnk, hA, Bool.false_and] <;> rfl) (fun hb60 => ?_) (fun hb60 => ?_)
          · exact absurd hb60 (by simp)
          · skip
            have hno : outs known (a.ns.getD i default) i (a.ns.getD k default) k = false := by
              rw [← Bool.not_eq_true]
              intro h
              rw [← Bool.not_eq_true] at hA
              apply hA
              unfold outs at h
              simp only [Bool.and_eq_true, Bool.or_eq_true, decide_eq_true_eq, beq_iff_eq] at h ⊢
              omega
            refine BlkK.nrm ?_
            refine Exec.reg1 ?_
            refine Run.o1 (by simp only [go_sem, hni, gt_iff_lt, hnk, hA, Bool.false_and] <;> rfl) ?_
            refine Run.o1 (by simp only [go_sem, hni, gt_iff_lt, hnk, hA, Bool.false_and]; (try simp (disch := omega) only [IntWalk.i64_in, IntWalk.u64_in, if_neg, if_pos])<;> rfl) ?_
            refine Run.o1 (by simp only [go_sem, hni, gt_iff_lt, hnk, hA, Bool.false_and] <;> rfl) ?_
            refine Run.nil ?_
            refine ForK.nxt ?_ ?_ ?_
            · omega
            · exact Ghost.kp [1, 2, 3, 7, 8] [3, 7] (by simp only [go_sem, hni, gt_iff_lt, hnk, hA, Bool.false_and] <;> first | exact eqz | rfl)
            · rw [List.range_succ, List.any_append, hX, List.any_cons, List.any_nil, Bool.or_false, Bool.false_or]; exact hno
      · skip
        have hke : k = a.ns.length := by have := ge_of_dec hb23; omega
        subst hke
        have hr : cnts a.ns known i = true := by unfold cnts; rw [decide_eq_true hc, hX]; rfl
        refine Exec.exitS ?_
        refine ForK.ext ?_
        refine BlkK.hit ?_
        refine Exec.reg ?_
        refine Run.o1 (by simp only [go_sem, hni, gt_iff_lt, hr] <;> rfl) ?_
        refine Run.nil ?_
        exact Ends.fin [] (rs := [.tmp 6]) rfl (by simp only [go_sem, hni, gt_iff_lt, hr] <;> rfl) (by simp only [go_sem, hni, gt_iff_lt, hr] <;> first | rfl | exact eqz)

end Go.Mw
namespace Go.Mw
open Go.Proofs
open Go.Bi
attribute [local go_sem] decide_true beq_self_eq_true bne_self_eq_false
/-- The points, when the first notes have been looked at. -/
def ptK (a : Ac) (known : Int) (k : Nat) : List Pt := isortE ptLt ((a.start, a.fig) :: (cntT a.ns known k).map ptOf)
theorem ptK_zero (a : Ac) (known : Int) : ptK a known 0 = [(a.start, a.fig)] := rfl
theorem ptK_all (a : Ac) (known : Int) : ptK a known a.ns.length = pts a known := rfl
theorem ptK_no {a : Ac} {known : Int} {k : Nat} (h : cnts a.ns known k = false) : ptK a known (k + 1) = ptK a known k := by unfold ptK; rw [cntT_succ, if_neg (by rw [h]; decide)]
theorem ptK_yes {a : Ac} {known : Int} {k : Nat} (h : cnts a.ns known k = true) : ptK a known (k + 1) = insE ptLt (ptOf (a.ns.getD k default)) (ptK a known k) := by
  unfold ptK
  rw [cntT_succ, if_pos h, List.map_append, List.map_cons, List.map_nil, ← List.cons_append, isortE_snoc]
theorem ptK_len (a : Ac) (known : Int) (k : Nat) : 1 ≤ (ptK a known k).length ∧ (ptK a known k).length ≤ k + 1 := by
  have := cntT_len a.ns known k
  unfold ptK
  rw [len_isortE]
  simp; omega
theorem ptK_low {a : Ac} {known : Int} {k : Nat} {q : Pt} (h : (ptK a known k)[0]? = some q) : q.1 ≤ a.start := by
  have h1 : InO ptLt (ptK a known k) := ino_sort ptLt_weak _
  have hm : (a.start, a.fig) ∈ ptK a known k := (isortE_perm ptLt _).mem_iff.2 List.mem_cons_self
  obtain ⟨i, hi⟩ := List.getElem?_of_mem hm
  obtain ⟨hil, hi⟩ := List.getElem?_eq_some_iff.1 hi
  obtain ⟨h0, h⟩ := List.getElem?_eq_some_iff.1 h
  cases i with
  | zero => rw [h] at hi; rw [hi]; exact Int.le_refl _
  | succ i =>
    unfold InO at h1
    rw [List.pairwise_iff_getElem] at h1
    have := h1 0 (i + 1) h0 hil (by omega)
    rw [h, hi] at this
    unfold ptLt at this
    have := of_decide_eq_false this
    simp only at this
    omega
set_option maxRecDepth 20000 in
set_option maxHeartbeats 16000000 in
/-- meterworks/meterworksref13.Points -/
theorem c_ref_Points (a : Ac) (v : Val a) (known : Int) : Contract Try.prog 24 [acV a, .int known] (.leaf (.d (ptsD (pts a known)))) [] := by
  have hns := v.nns
  have hst := v.start
  have hz := ptK_zero a known
  refine con_of follows_mixed Try.func24 rfl (by simp only [List.length_cons, List.length_nil, Try.ntmps24]; omega) (by kernel_rfl) rfl ?_
  refine Exec.reg ?_
  iterate 2 (refine Run.o ?_)
  refine Run.nil ?_
  refine Exec.reg ?_
  iterate 7 (refine Run.o ?_)
  refine Run.nil ?_
  refine Exec.assocS ?_
  refine Exec.reg ?_
  refine Run.frz 13 (by simp only [go_sem] <;> rfl) ?_
  refine Run.o ?_
  refine Run.nil ?_
  refine Exec.blk ?_
  refine Exec.forA [1, 2, 5, 6] [2] (a.ns.length) (fun k => [.slot 6 (.int k), .slot 5 (.leaf (.d (ptsD (ptK a known k))))]) (fun _ => True) (fun k => by simp only [go_sem] <;> rfl) (by simp only [go_sem, Int.natCast_zero, hz] <;> rfl) ?_ (fun k hk hX => ?_)
  · trivial
  · skip
    refine Exec.assocS ?_
    refine Exec.reg ?_
    iterate 5 (refine Run.o ?_)
    refine Run.nil ?_
    refine Exec.cndS (by simp only [go_sem] <;> rfl) (fun hb18 => ?_) (fun hb18 => ?_)
    · skip
      have hlt := lt_of_dec hb18
      have hnk := nt_get hlt
      have hnv := v.nte _ (List.mem_of_getElem? hnk)
      obtain ⟨m, hm⟩ : ∃ m, (ptK a known k).length = m := ⟨_, rfl⟩
      have hml := ptK_len a known k
      rw [hm] at hml
      refine Exec.skipS ?_
      refine Exec.blk ?_
      refine Exec.assocS ?_
      refine Exec.reg ?_
      iterate 3 (refine Run.o1 (by simp only [go_sem, hnk, hm] <;> rfl) ?_)
      refine Run.c1 (c_ref_counts a k known hlt (by omega)) (by simp only [go_sem, hnk, hm] <;> rfl) (by simp only [go_sem, hnk, hm] <;> rfl) ?_
      refine Run.o1 (by simp only [go_sem, hnk, hm] <;> rfl) ?_
      refine Run.nil ?_
      refine Exec.cndS (by simp only [go_sem, hnk, hm] <;> rfl) (fun hb25 => ?_) (fun hb25 => ?_)
      · skip
        have hc : cnts a.ns known k = false := by simpa using hb25
        have hsn := ptK_no hc
        refine Exec.exitS ?_
        refine BlkK.hit ?_
        refine Exec.reg1 ?_
        refine Run.o1 (by simp only [go_sem, hnk, hm, hsn] <;> rfl) ?_
        refine Run.o1 (by simp only [go_sem, hnk, hm, hsn]; (try simp (disch := omega) only [IntWalk.i64_in, IntWalk.u64_in, if_neg, if_pos])<;> rfl) ?_
        refine Run.o1 (by simp only [go_sem, hnk, hm, hsn] <;> rfl) ?_
        refine Run.nil ?_
        refine ForK.nxt ?_ ?_ ?_
        · omega
        · exact Ghost.kp [1, 2, 5, 6] [2] (by simp only [go_sem, hnk, hm, hsn] <;> first | exact eqz | rfl)
        · trivial
      · skip
        have hc : cnts a.ns known k = true := by simpa using hb25
        have hsn := ptK_yes hc
        refine Exec.skipS ?_
        refine Exec.reg ?_
        iterate 3 (refine Run.o1 (by simp only [go_sem, hnk, hm] <;> rfl) ?_)
        refine Run.nil ?_
        refine Exec.blk ?_
        refine Exec.forA [1, 2, 5, 6, 7] [2] (m) (fun j => [.slot 7 (.int ((m : Int) - j))]) (fun j => scanE ptLt (ptOf (a.ns.getD k default)) (ptK a known k) m = scanE ptLt (ptOf (a.ns.getD k default)) (ptK a known k) (m - j) ∧ j < m) (fun j => by simp only [go_sem] <;> rfl) (by simp only [go_sem, hnk, hm, Int.natCast_zero, Int.sub_zero, hm] <;> rfl) ?_ (fun j hj Xj => ?_)
        · exact ⟨rfl, by omega⟩
        · skip
          obtain ⟨hXs, hXl⟩ := Xj
          have hcj : m - j = m - j - 1 + 1 := by omega
          have hcj2 : m - (j + 1) = m - j - 1 := by omega
          obtain ⟨q, hq⟩ : ∃ q, (ptK a known k)[m - j - 1]? = some q := ⟨_, List.getElem?_eq_getElem (by omega)⟩
          have t1 : ((m : Int) - j - 1).toNat = m - j - 1 := by omega
          refine Exec.assocS ?_
          refine Exec.opk 15 ?_
          iterate 2 (refine OpenK.o1 (by simp only [go_sem, hnk, hm, hq, t1] <;> rfl) ?_)
          refine OpenK.o1 (by simp only [go_sem, hnk, hm, hq, t1]; (try simp (disch := omega) only [IntWalk.i64_in, IntWalk.u64_in, if_neg, if_pos])<;> rfl) ?_
          refine OpenK.o1 (by simp only [go_sem, hnk, hm, hq, t1]; (try simp (disch := omega) only [if_pos]); (try simp only [go_sem, hnk, hm, hq, t1])<;> rfl) ?_
          iterate 5 (refine OpenK.o1 (by simp only [go_sem, hnk, hm, hq, t1] <;> rfl) ?_)
          refine OpenK.o1 (by simp only [go_sem, hnk, hm, hq, t1]; (try simp (disch := omega) only [if_pos]); (try simp only [go_sem, hnk, hm, hq, t1])<;> rfl) ?_
          iterate 3 (refine OpenK.o1 (by simp only [go_sem, hnk, hm, hq, t1] <;> rfl) ?_)
          refine OpenK.nil (OpenE.fin (by decide +kernel) (by decide +kernel) ?_)
          refine Exec.cndS (by simp only [go_sem, hnk, hm, hq, t1] <;> rfl) (fun hb40 => ?_) (fun hb40 => ?_)
          · skip
            have hl : ptLt (ptOf (a.ns.getD k default)) q = true := hb40
            have hj0 : m - j - 1 ≠ 0 := fun e => by
              rw [e] at hq
              have h1 := ptK_low hq
              have h2 := of_decide_eq_true hl
              have h3 : (ptOf (a.ns.getD k default)).1 = (a.ns.getD k default).day := rfl
              omega
            refine Exec.skipS ?_
            refine Exec.blk1 ?_
            refine Exec.reg1 ?_
            refine Run.o1 (by simp only [go_sem, hnk, hm, hq, t1] <;> rfl) ?_
            refine Run.o1 (by simp only [go_sem, hnk, hm, hq, t1]; (try simp (disch := omega) only [IntWalk.i64_in, IntWalk.u64_in, if_neg, if_pos])<;> rfl) ?_
            refine Run.o1 (by simp only [go_sem, hnk, hm, hq, t1] <;> rfl) ?_
            refine Run.nil ?_
            refine Blk1K.nrm ?_
            refine ForK.nxt ?_ ?_ ?_
            · omega
            · exact Ghost.kp [1, 2, 5, 6, 7] [2] (by simp only [go_sem, hnk, hm, hq, t1] <;> first | exact eqz | rfl)
            · exact ⟨by rw [hXs, hcj, scanE_yes hq hl, hcj2], by omega⟩
          · skip
            have hl : ptLt (ptOf (a.ns.getD k default)) q = false := hb40
            have hsc : scanE ptLt (ptOf (a.ns.getD k default)) (ptK a known k) m = m - j := by rw [hXs, hcj, scanE_no hq hl]
            have en : ptK a known (k + 1) = (ptK a known k).take (m - j) ++ [ptOf (a.ns.getD k default)] ++ (ptK a known k).drop (m - j) := by
              rw [hsn]
              unfold insE
              rw [hm, hsc]
            have t2 : ((m : Int) - j).toNat = m - j := by omega
            refine Exec.exitS ?_
            refine ForK.ext ?_
            refine BlkK.hit ?_
            refine Exec.opk1 27 ?_
            iterate 3 (refine OpenK.o1 (by simp only [go_sem, hnk, hm, hq, t1, t2] <;> rfl) ?_)
            refine OpenK.o1 (by simp only [go_sem, hnk, hm, hq, t1, t2]; (try simp (disch := omega) only [if_pos]); (try simp only [go_sem, hnk, hm, hq, t1, t2])<;> rfl) ?_
            refine OpenK.o1 (by simp only [go_sem, hnk, hm, hq, t1, t2]; (try simp (disch := omega) only [if_pos]); (try simp only [go_sem, hnk, hm, hq, t1, t2]) <;> first | (refine ite_run ⟨by (try simp only [List.length_append, List.length_drop, List.length_take, List.length_map, List.length_cons, List.length_nil, List.length_replicate, List.length_set, List.length_range, Nat.zero_add]); omega, by (try simp only [List.length_append, List.length_drop, List.length_take, List.length_map, List.length_cons, List.length_nil, List.length_replicate, List.length_set, List.length_range, Nat.zero_add]); omega, by repeat (first | exact al_nil | assumption | refine al_app ?_ ?_ | refine al_drop ?_ | refine al_take ?_ | exact al_map (fun _ => rfl) | exact al_rep rfl | refine al_cons rfl ?_)⟩ ?_; simp only [go_sem, hnk, hm, hq, t1, t2] <;> rfl) | (refine ite_run ⟨by (try simp only [List.length_append, List.length_drop, List.length_take, List.length_map, List.length_cons, List.length_nil, List.length_replicate, List.length_set, List.length_range, Nat.zero_add]); omega, by repeat (first | exact al_nil | assumption | refine al_app ?_ ?_ | refine al_drop ?_ | refine al_take ?_ | exact al_map (fun _ => rfl) | exact al_rep rfl | refine al_cons rfl ?_)⟩ ?_; simp only [go_sem, hnk, hm, hq, t1, t2] <;> rfl) | rfl) ?_
            iterate 3 (refine OpenK.o1 (by simp only [go_sem, hnk, hm, hq, t1, t2] <;> rfl) ?_)
            refine OpenK.o1 (by simp only [go_sem, hnk, hm, hq, t1, t2]; (try simp (disch := omega) only [if_pos]); (try simp only [go_sem, hnk, hm, hq, t1, t2])<;> rfl) ?_
            iterate 5 (refine OpenK.o1 (by simp only [go_sem, hnk, hm, hq, t1, t2] <;> rfl) ?_)
            refine OpenK.o1 (by simp only [go_sem, hnk, hm, hq, t1, t2]; (try simp (disch := omega) only [if_pos]); (try simp only [go_sem, hnk, hm, hq, t1, t2])<;> rfl) ?_
            iterate 4 (refine OpenK.o1 (by simp only [go_sem, hnk, hm, hq, t1, t2] <;> rfl) ?_)
            refine OpenK.o1 (by simp only [go_sem, hnk, hm, hq, t1, t2]; (try simp (disch := omega) only [if_pos]); (try simp only [go_sem, hnk, hm, hq, t1, t2]) <;> first | (refine ite_run ⟨by (try simp only [List.length_append, List.length_drop, List.length_take, List.length_map, List.length_cons, List.length_nil, List.length_replicate, List.length_set, List.length_range, Nat.zero_add]); omega, by (try simp only [List.length_append, List.length_drop, List.length_take, List.length_map, List.length_cons, List.length_nil, List.length_replicate, List.length_set, List.length_range, Nat.zero_add]); omega, by repeat (first | exact al_nil | assumption | refine al_app ?_ ?_ | refine al_drop ?_ | refine al_take ?_ | exact al_map (fun _ => rfl) | exact al_rep rfl | refine al_cons rfl ?_)⟩ ?_; simp only [go_sem, hnk, hm, hq, t1, t2] <;> rfl) | (refine ite_run ⟨by (try simp only [List.length_append, List.length_drop, List.length_take, List.length_map, List.length_cons, List.length_nil, List.length_replicate, List.length_set, List.length_range, Nat.zero_add]); omega, by repeat (first | exact al_nil | assumption | refine al_app ?_ ?_ | refine al_drop ?_ | refine al_take ?_ | exact al_map (fun _ => rfl) | exact al_rep rfl | refine al_cons rfl ?_)⟩ ?_; simp only [go_sem, hnk, hm, hq, t1, t2] <;> rfl) | rfl) ?_
            iterate 2 (refine OpenK.o1 (by simp only [go_sem, hnk, hm, hq, t1, t2] <;> rfl) ?_)
            refine OpenK.o1 (by simp only [go_sem, hnk, hm, hq, t1, t2]; (try simp (disch := omega) only [if_pos]); (try simp only [go_sem, hnk, hm, hq, t1, t2])<;> rfl) ?_
            refine OpenK.o1 (by simp only [go_sem, hnk, hm, hq, t1, t2]; (try simp (disch := omega) only [if_pos]); (try simp only [go_sem, hnk, hm, hq, t1, t2]) <;> first | (refine ite_run ⟨by (try simp only [List.length_append, List.length_drop, List.length_take, List.length_map, List.length_cons, List.length_nil, List.length_replicate, List.length_set, List.length_range, Nat.zero_add]); omega, by (try simp only [List.length_append, List.length_drop, List.length_take, List.length_map, List.length_cons, List.length_nil, List.length_replicate, List.length_set, List.length_range, Nat.zero_add]); omega, by repeat (first | exact al_nil | assumption | refine al_app ?_ ?_ | refine al_drop ?_ | refine al_take ?_ | exact al_map (fun _ => rfl) | exact al_rep rfl | refine al_cons rfl ?_)⟩ ?_; simp only [go_sem, hnk, hm, hq, t1, t2] <;> rfl) | (refine ite_run ⟨by (try simp only [List.length_append, List.length_drop, List.length_take, List.length_map, List.length_cons, List.length_nil, List.length_replicate, List.length_set, List.length_range, Nat.zero_add]); omega, by repeat (first | exact al_nil | assumption | refine al_app ?_ ?_ | refine al_drop ?_ | refine al_take ?_ | exact al_map (fun _ => rfl) | exact al_rep rfl | refine al_cons rfl ?_)⟩ ?_; simp only [go_sem, hnk, hm, hq, t1, t2] <;> rfl) | rfl) ?_
            refine OpenK.o1 (by simp only [go_sem, hnk, hm, hq, t1, t2] <;> rfl) ?_
            refine OpenK.nil (OpenE.ghoT (by kernel_rfl) (by kernel_rfl) (by kernel_rfl) (Ghost.frzA 43) (by simp only [go_sem] <;> rfl) ?_)
            refine BlkK.nrm ?_
            refine Exec.reg1 ?_
            refine Run.o1 (by simp only [go_sem, hnk, hm, hq, t1, t2] <;> rfl) ?_
            refine Run.o1 (by simp only [go_sem, hnk, hm, hq, t1, t2]; (try simp (disch := omega) only [IntWalk.i64_in, IntWalk.u64_in, if_neg, if_pos])<;> rfl) ?_
            refine Run.o1 (by simp only [go_sem, hnk, hm, hq, t1, t2] <;> rfl) ?_
            refine Run.nil ?_
            refine ForK.nxt ?_ ?_ ?_
            · omega
            · exact Ghost.kp [1, 2, 5, 6] [2] (by simp only [go_sem, hnk, hm, hq, t1, t2] <;> first | ((repeat' (first | with_reducible_and_instances rfl | refine st_eq ?_ ?_ ?_ | refine ret_eq ?_ | refine tup_eq ?_ | refine tm_eq ?_ ?_ | refine arr_eq ?_ | refine cells_eq ?_ | refine val_eq ?_ | refine ls_eq ?_ ?_ | refine own_eq ?_ ?_ | refine sl_eq ?_ | refine b_eq ?_ | (refine i_eq ?_; omega))); (all_goals (first | (rw [List.take_of_length_le (by simp <;> omega), en]; simp [encPt, ptOf]; done) | (rw [en]; simp [encPt, ptOf]; done)))) | rfl)
            · trivial
    · skip
      have hke : k = a.ns.length := by have := ge_of_dec hb18; omega
      subst hke
      have e := ptK_all a known
      refine Exec.exitS ?_
      refine ForK.ext ?_
      refine BlkK.hit ?_
      refine Exec.reg ?_
      iterate 2 (refine Run.o1 (by simp only [go_sem, e] <;> rfl) ?_)
      refine Run.nil ?_
      exact Ends.fin [] (rs := [.tmp 4]) rfl (by simp only [go_sem, e] <;> rfl) (by simp only [go_sem, e] <;> first | rfl | exact eqz)

end Go.Mw
namespace Go.Mw
open Go.Proofs
open Go.Bi
attribute [local go_sem] decide_true beq_self_eq_true bne_self_eq_false
end Go.Mw
namespace Go.Mw
open Go.Proofs
open Go.Bi
attribute [local go_sem] decide_true beq_self_eq_true bne_self_eq_false
theorem tOff_bnd {a : Ac} (v : Val a) {known : Int} (ho : ordB a known = true) {d : Dp} (hm : d ∈ a.ds) {day : Int} (hd : a.start ≤ day ∧ day ≤ 131072) : -150000000000000 ≤ tOff a (pts a known) day d ∧ tOff a (pts a known) day d ≤ 150000000000000 ∧ 0 ≤ xD a (pts a known) day d ∧ xD a (pts a known) day d ≤ 150000000000000 := by
  have r := rise_of v ho
  have hv := mem_val v hm
  have hst := v.start
  have hf := v.fig
  have h0 := xD_step v r (d := d) (by omega) (Int.le_refl a.start) hd.1 hd.2
  have e0 : xD a (pts a known) a.start d = 0 := if_pos hv.1.1
  have hb : xD a (pts a known) day d ≤ 150000000000000 := by
    unfold xD
    split
    · omega
    · have b1 := shw_bnd v r (day := min d.to day) (by omega)
      have b2 := shw_bnd v r (day := d.fr) (by omega)
      omega
  have y := yD_mono (d := d) hv.2.1.1 (Int.le_refl 0) (by omega : 0 ≤ xD a (pts a known) day d)
  rw [yD_zero] at y
  unfold tOff
  rw [offD_xy]
  split <;> omega
theorem telT_len (a : Ac) (known but : Int) : ∀ k, (telT a known but k).length ≤ k
  | 0 => by simp [telT]
  | k + 1 => by
    have := telT_len a known but k
    rw [telT_succ]
    split
    · simp; omega
    · omega
theorem dp_get {l : List Dp} {i : Nat} (h : i < l.length) : l[i]? = some (l.getD i default) := by rw [List.getElem?_eq_getElem h]; simp [List.getD, List.getElem?_eq_getElem h]
end Go.Mw
namespace Go.Mw
open Go.Proofs
open Go.Bi
attribute [local go_sem] decide_true beq_self_eq_true bne_self_eq_false
theorem tr_get {l : List Trf} {i : Nat} (h : i < l.length) : l[i]? = some (l.getD i default) := by rw [List.getElem?_eq_getElem h]; simp [List.getD, List.getElem?_eq_getElem h]
theorem trTo_le (a : Ac) (day : Int) (i : Nat) : trTo a day i ≤ day := by unfold trTo; split <;> omega
theorem trCost_bnd {a : Ac} (v : Val a) {known but : Int} (ho : ordB a known = true) {day : Int} (hd : a.start ≤ day ∧ day ≤ 131072) {i : Nat} (hi : i < a.ts.length) : 0 ≤ trCost a known but day i ∧ trCost a known but day i ≤ 3000000000000000000 ∧
    (trFr a i < trTo a day i → (0 ≤ used a known but (trTo a day i) - used a known but (trFr a i) ∧ used a known but (trTo a day i) - used a known but (trFr a i) ≤ 300000000000000) ∧ 0 ≤ (used a known but (trTo a day i) - used a known but (trFr a i)) * (a.ts.getD i default).pence ∧ (used a known but (trTo a day i) - used a known but (trFr a i)) * (a.ts.getD i default).pence ≤ 3000000000000000000) := by
  have hv := v.trf i _ (tr_get hi)
  have hst := v.start
  have hT := trTo_le a day i
  have key : trFr a i < trTo a day i → (0 ≤ used a known but (trTo a day i) - used a known but (trFr a i) ∧ used a known but (trTo a day i) - used a known but (trFr a i) ≤ 300000000000000) ∧ 0 ≤ (used a known but (trTo a day i) - used a known but (trFr a i)) * (a.ts.getD i default).pence ∧ (used a known but (trTo a day i) - used a known but (trFr a i)) * (a.ts.getD i default).pence ≤ 3000000000000000000 := fun h => by
    have hF : a.start ≤ trFr a i := by unfold trFr; omega
    have s := used_step v (but := but) ho hF (by omega : trFr a i ≤ trTo a day i) (by omega)
    have b1 := used_bnd v (but := but) ho (day := trTo a day i) (by omega)
    have b2 := used_bnd v (but := but) ho (day := trFr a i) (by omega)
    have m := mul_bnd (x := used a known but (trTo a day i) - used a known but (trFr a i)) (y := (a.ts.getD i default).pence) (X := 300000000000000) (Y := 10000) (by omega) hv.2.1
    exact ⟨by omega, m.1, by omega⟩
  refine ⟨?_, ?_, key⟩
  · unfold trCost
    split
    · rename_i h; exact (tdiv_bnd (key h).2.1 (by omega)).1
    · omega
  · unfold trCost
    split
    · rename_i h
      have := tdiv_bnd (d := 1000) (key h).2.1 (by omega)
      have := (key h).2.2
      omega
    · omega
theorem trCost_le {a : Ac} (v : Val a) {known but : Int} (ho : ordB a known = true) {day : Int} (hd : a.start ≤ day ∧ day ≤ 131072) {i : Nat} (hi : i < a.ts.length) : trCost a known but day i ≤ 3000000000000000 := by
  have h := trCost_bnd v (but := but) ho hd hi
  unfold trCost
  split
  · rename_i hl
    obtain ⟨_, g1, g2⟩ := h.2.2 hl
    have := tdiv_mono g1 g2 (by omega : (0 : Int) < 1000)
    have e : (3000000000000000000 : Int).tdiv 1000 = 3000000000000000 := by decide
    omega
  · omega
theorem costT_bnd {a : Ac} (v : Val a) {known but : Int} (ho : ordB a known = true) {day : Int} (hd : a.start ≤ day ∧ day ≤ 131072) : ∀ k, k ≤ a.ts.length → 0 ≤ costT a known but day k ∧ costT a known but day k ≤ 13107200000 + 3000000000000000 * k
  | 0, _ => by
    have hst := v.start
    have m := mul_bnd (x := a.stand) (y := day - a.start) (X := 100000) (Y := 131072) v.stand (by omega)
    rw [costT]; omega
  | k + 1, h => by
    have ih := costT_bnd v (but := but) ho hd k (by omega)
    have h1 := trCost_bnd v (but := but) ho hd (i := k) (by omega)
    have h2 := trCost_le v (but := but) ho hd (i := k) (by omega)
    rw [costT]; omega
theorem feeO_bnd {a : Ac} (v : Val a) (known but : Int) (n : Int) : ∀ k, k ≤ a.ds.length → n ≤ feeO n (telT a known but k) ∧ feeO n (telT a known but k) ≤ n + 1000000 * k
  | 0, _ => by simp [telT, feeO]
  | k + 1, hk => by
    have ih := feeO_bnd v known but n k (by omega)
    have hv := mem_val v (getD_mem (d := default) (by omega : k < a.ds.length))
    rw [telT_succ]
    split
    · rw [feeO_snoc]
      unfold tFee
      split <;> omega
    · omega
end Go.Mw

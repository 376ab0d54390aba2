/- Contracts of the functions that the bill reaches: what a test comes to. -/
import Derived.Test.YtabfdgdckmhhgaaB6
set_option linter.unusedSimpArgs false
set_option linter.unusedVariables false
set_option linter.unusedSectionVars false
set_option linter.deprecated false
namespace Go.Mw
open Go.Proofs
open Go.Bi
attribute [local go_sem] decide_true beq_self_eq_true bne_self_eq_false
/-- A dispute's result, as the program holds it. -/
def tstD (d : Dp) : D := if uph d = true then .ifc 108 true (encDp d) else .ifc 109 true (encDp d)
set_option maxRecDepth 20000 in
/-- meterworks/bill.testOf -/
theorem c_testOf (d : Dp) (he : -500 ≤ d.err ∧ d.err ≤ 500) : Contract Try.prog 51 [dpV d] (.leaf (.d (tstD d))) [] := by
  refine con_of follows_mixed Try.func51 rfl (by simp only [List.length_cons, List.length_nil, Try.ntmps51]; omega) (by kernel_rfl) rfl ?_
  refine Exec.reg ?_
  iterate 2 (refine Run.o1 (by simp only [go_sem, gt_iff_lt, pick_max, Int.zero_sub] <;> rfl) ?_)
  refine Run.nil ?_
  refine Exec.assocS ?_
  refine Exec.reg ?_
  iterate 4 (refine Run.o1 (by simp only [go_sem, gt_iff_lt, pick_max, Int.zero_sub] <;> rfl) ?_)
  refine Run.o1 (by simp only [go_sem, gt_iff_lt, pick_max, Int.zero_sub]; (try simp (disch := omega) only [IntWalk.i64_in, IntWalk.u64_in, if_neg, if_pos])<;> rfl) ?_
  iterate 4 (refine Run.o1 (by simp only [go_sem, gt_iff_lt, pick_max, Int.zero_sub] <;> rfl) ?_)
  refine Run.nil ?_
  refine Exec.cndS (by simp only [go_sem, gt_iff_lt, pick_max, Int.zero_sub] <;> rfl) (fun hb11 => ?_) (fun hb11 => ?_)
  · skip
    have hr : tstD d = .ifc 108 true (encDp d) := if_pos hb11
    refine Exec.assocS ?_
    refine Exec.reg ?_
    iterate 3 (refine Run.o1 (by simp only [go_sem, gt_iff_lt, pick_max, Int.zero_sub, hr] <;> rfl) ?_)
    refine Run.nil ?_
    refine Exec.retS ?_
    exact Ends.fin [] (rs := [.tmp 2]) rfl (by simp only [go_sem, gt_iff_lt, pick_max, Int.zero_sub, hr] <;> rfl) (by simp only [go_sem, gt_iff_lt, pick_max, Int.zero_sub, hr] <;> first | rfl | exact eqz)
  · skip
    have hr : tstD d = .ifc 109 true (encDp d) := if_neg (fun h => by have h2 : decide (d.alw < max d.err (-d.err)) = true := h; rw [h2] at hb11; cases hb11)
    refine Exec.skipS ?_
    refine Exec.reg ?_
    iterate 3 (refine Run.o1 (by simp only [go_sem, gt_iff_lt, pick_max, Int.zero_sub, hr] <;> rfl) ?_)
    refine Run.nil ?_
    exact Ends.fin [] (rs := [.tmp 2]) rfl (by simp only [go_sem, gt_iff_lt, pick_max, Int.zero_sub, hr] <;> rfl) (by simp only [go_sem, gt_iff_lt, pick_max, Int.zero_sub, hr] <;> first | rfl | exact eqz)

set_option maxRecDepth 20000 in
/-- (meterworks/bill.refused).off -/
theorem c_refused_off (d : Dp) (x : AV) (hx : ∃ y, x = .leaf (.d y)) (day : Int) : Contract Try.prog 102 [dpV d, x, .int day] (.int 0) [] := by
  obtain ⟨y, rfl⟩ := hx
  refine con_of follows_mixed Try.func102 rfl (by simp only [List.length_cons, List.length_nil, Try.ntmps102]; omega) (by kernel_rfl) rfl ?_
  refine Exec.reg ?_
  iterate 2 (refine Run.o ?_)
  refine Run.nil ?_
  refine Exec.reg ?_
  refine Run.o ?_
  refine Run.nil ?_
  exact Ends.fin [] (rs := [.tmp 6]) rfl (by simp only [go_sem] <;> rfl) (by simp only [go_sem] <;> first | rfl | exact eqz)

set_option maxRecDepth 20000 in
/-- (meterworks/bill.upheld).fee -/
theorem c_upheld_fee (d : Dp) : Contract Try.prog 99 [dpV d] (.int 0) [] := by
  refine con_of follows_mixed Try.func99 rfl (by simp only [List.length_cons, List.length_nil, Try.ntmps99]; omega) (by kernel_rfl) rfl ?_
  refine Exec.reg ?_
  iterate 2 (refine Run.o ?_)
  refine Run.nil ?_
  refine Exec.reg ?_
  refine Run.o ?_
  refine Run.nil ?_
  exact Ends.fin [] (rs := [.tmp 2]) rfl (by simp only [go_sem] <;> rfl) (by simp only [go_sem] <;> first | rfl | exact eqz)

set_option maxRecDepth 20000 in
/-- (meterworks/bill.refused).fee -/
theorem c_refused_fee (d : Dp) : Contract Try.prog 101 [dpV d] (.int d.fee) [] := by
  refine con_of follows_mixed Try.func101 rfl (by simp only [List.length_cons, List.length_nil, Try.ntmps101]; omega) (by kernel_rfl) rfl ?_
  refine Exec.reg ?_
  iterate 2 (refine Run.o ?_)
  refine Run.nil ?_
  refine Exec.reg ?_
  iterate 3 (refine Run.o ?_)
  refine Run.nil ?_
  exact Ends.fin [] (rs := [.tmp 2]) rfl (by simp only [go_sem] <;> rfl) (by simp only [go_sem] <;> first | rfl | exact eqz)

set_option maxRecDepth 20000 in
set_option maxHeartbeats 4000000 in
/-- (meterworks/bill.upheld).off -/
theorem c_upheld_off {g : FuncId} {ds : List D} (a : Ac) (v : Val a) (known : Int) (ho : ordB a known = true) (hg : canCall Try.prog g = true) (hc : ∀ x, a.start ≤ x ∧ x ≤ 131072 → Contract Try.prog g (.int x :: ds.map fun x => .leaf (.d x)) (.int (shw a (pts a known) x)) []) (d : Dp) (hm : d ∈ a.ds) (day : Int) (hd : a.start ≤ day ∧ day ≤ 131072) : Contract Try.prog 100 [dpV d, .leaf (.d (.fn g ds)), .int day] (.int (offD a (pts a known) day d)) [] := by
  have hv := mem_val v hm
  have r := rise_of v ho
  have hst := v.start
  have hfg := v.fig
  have b1 := fun x hx => shw_bnd v r (day := x) hx
  refine con_of follows_mixed Try.func100 rfl (by simp only [List.length_cons, List.length_nil, Try.ntmps100]; omega) (by kernel_rfl) rfl ?_
  refine Exec.reg ?_
  iterate 2 (refine Run.o1 (by simp only [go_sem, ge_iff_le, pick_min] <;> rfl) ?_)
  refine Run.nil ?_
  refine Exec.assocS ?_
  refine Exec.reg ?_
  iterate 4 (refine Run.o1 (by simp only [go_sem, ge_iff_le, pick_min] <;> rfl) ?_)
  refine Run.nil ?_
  refine Exec.cndS (by simp only [go_sem, ge_iff_le, pick_min] <;> rfl) (fun hb11 => ?_) (fun hb11 => ?_)
  · skip
    have hr : offD a (pts a known) day d = 0 := if_pos (of_decide_eq_true hb11)
    refine Exec.assocS ?_
    refine Exec.reg ?_
    refine Run.o1 (by simp only [go_sem, ge_iff_le, pick_min, hr] <;> rfl) ?_
    refine Run.nil ?_
    refine Exec.retS ?_
    exact Ends.fin [] (rs := [.tmp 6]) rfl (by simp only [go_sem, ge_iff_le, pick_min, hr] <;> rfl) (by simp only [go_sem, ge_iff_le, pick_min, hr] <;> first | rfl | exact eqz)
  · skip
    have hr : offD a (pts a known) day d = _ := if_neg (of_decide_eq_false hb11)
    have c1 := b1 (min d.to day) (by omega)
    have c2 := b1 d.fr (by omega)
    have hz : ¬ (1000 + d.err = 0) := by omega
    have x0 := shw_mono v r (d1 := d.fr) (d2 := min d.to day) (by omega) (by have := of_decide_eq_false hb11; omega) (by omega)
    have y := yD_mono (d := d) hv.2.1.1 (Int.le_refl 0) (by omega : 0 ≤ shw a (pts a known) (min d.to day) - shw a (pts a known) d.fr)
    rw [yD_zero] at y
    unfold yD at y
    refine Exec.skipS ?_
    refine Exec.opk 14 ?_
    iterate 5 (refine OpenK.o1 (by simp only [go_sem, ge_iff_le, pick_min, hr, hz] <;> rfl) ?_)
    refine OpenK.calw (by simp only [go_sem] <;> rfl) (hc (min d.to day) (by omega)) (by assumption) (by simp only [go_sem, ge_iff_le, pick_min, hr, hz] <;> rfl) (by simp only [go_sem, ge_iff_le, pick_min, hr, hz] <;> rfl) (by exact ⟨by first | exact WkR.pure rfl | exact WkR.nil _ | exact WkR.int (by omega), wkr_caps _ _ _⟩) (fr0) (by simp only [go_sem, ge_iff_le, pick_min, hr, hz] <;> rfl) (by simp only [go_sem] <;> rfl) (by simp only [go_sem] <;> rfl) ?_
    iterate 3 (refine OpenK.o1 (by simp only [go_sem, ge_iff_le, pick_min, hr, hz] <;> rfl) ?_)
    refine OpenK.calw (by simp only [go_sem] <;> rfl) (hc d.fr (by omega)) (by assumption) (by simp only [go_sem, ge_iff_le, pick_min, hr, hz] <;> rfl) (by simp only [go_sem, ge_iff_le, pick_min, hr, hz] <;> rfl) (by exact ⟨by first | exact WkR.pure rfl | exact WkR.nil _ | exact WkR.int (by omega), wkr_caps _ _ _⟩) (fr0) (by simp only [go_sem, ge_iff_le, pick_min, hr, hz] <;> rfl) (by simp only [go_sem] <;> rfl) (by simp only [go_sem] <;> rfl) ?_
    refine OpenK.o1 (by simp only [go_sem, ge_iff_le, pick_min, hr, hz]; (try simp (disch := omega) only [IntWalk.i64_in, IntWalk.u64_in, if_neg, if_pos])<;> rfl) ?_
    refine OpenK.o1 (by simp only [go_sem, ge_iff_le, pick_min, hr, hz] <;> rfl) ?_
    refine OpenK.nil (OpenE.fin (by decide +kernel) (by decide +kernel) ?_)
    refine Exec.reg ?_
    iterate 2 (refine Run.o1 (by simp only [go_sem, ge_iff_le, pick_min, hr, hz] <;> rfl) ?_)
    refine Run.o1 (by simp only [go_sem, ge_iff_le, pick_min, hr, hz]; (try simp (disch := omega) only [IntWalk.i64_in, IntWalk.u64_in, if_neg, if_pos])<;> rfl) ?_
    iterate 2 (refine Run.o1 (by simp only [go_sem, ge_iff_le, pick_min, hr, hz] <;> rfl) ?_)
    iterate 3 (refine Run.o1 (by simp only [go_sem, ge_iff_le, pick_min, hr, hz]; (try simp (disch := omega) only [IntWalk.i64_in, IntWalk.u64_in, if_neg, if_pos])<;> rfl) ?_)
    refine Run.o1 (by simp only [go_sem, ge_iff_le, pick_min, hr, hz] <;> rfl) ?_
    refine Run.nil ?_
    exact Ends.fin [] (rs := [.tmp 6]) rfl (by simp only [go_sem, ge_iff_le, pick_min, hr, hz] <;> rfl) (by simp only [go_sem, ge_iff_le, pick_min, hr, hz] <;> first | rfl | exact eqz)

end Go.Mw
namespace Go.Mw
open Go.Proofs
open Go.Bi
attribute [local go_sem] decide_true beq_self_eq_true bne_self_eq_false
set_option maxRecDepth 20000 in
/-- meterworks/bill.stateOf_1_1 -/
theorem c_after (n : Nt) (day : Int) : Contract Try.prog 50 [ntV n, .leaf (.d (.pt [.i day]))] (.bool (decide (day < n.day))) [] := by
  refine con_of follows_mixed Try.func50 rfl (by simp only [List.length_cons, List.length_nil, Try.ntmps50]; omega) (by kernel_rfl) rfl ?_
  refine Exec.reg ?_
  iterate 2 (refine Run.o1 (by simp only [go_sem, gt_iff_lt] <;> rfl) ?_)
  refine Run.nil ?_
  refine Exec.reg ?_
  iterate 5 (refine Run.o1 (by simp only [go_sem, gt_iff_lt] <;> rfl) ?_)
  refine Run.nil ?_
  exact Ends.fin [] (rs := [.tmp 3]) rfl (by simp only [go_sem, gt_iff_lt] <;> rfl) (by simp only [go_sem, gt_iff_lt] <;> first | rfl | exact eqz)

set_option maxRecDepth 20000 in
/-- slices.IndexFunc[[]meterworks/api.Note,meterworks/api.Note] -/
theorem c_IndexFunc_Nt {g : FuncId} {ds : List D} (p : Nt → Bool) (hg : canCall Try.prog g = true) (l : List Nt) (hl : l.length ≤ 1000) (hp : ∀ s, s ∈ l → Contract Try.prog g (ntV s :: ds.map fun x => .leaf (.d x)) (.bool (p s)) []) : Contract Try.prog 49 [.leaf (.d (nsD l)), .leaf (.d (.fn g ds))] (.int (idxI (l.findIdx? p))) [] := by
  refine con_of follows_mixed Try.func49 rfl (by simp only [List.length_cons, List.length_nil, Try.ntmps49]; omega) (by kernel_rfl) rfl ?_
  refine Exec.reg ?_
  refine Run.o ?_
  refine Run.nil ?_
  refine Exec.assocS ?_
  refine Exec.reg ?_
  iterate 3 (refine Run.o ?_)
  refine Run.nil ?_
  refine Exec.blk ?_
  refine Exec.forA [0, 1, 7, 8] [] (l.length) (fun k => [.slot 8 (.int k)]) (fun k => (l.take k).any p = false) (fun k => by simp only [go_sem] <;> rfl) (by simp only [go_sem] <;> rfl) ?_ (fun k hk hX => ?_)
  · rfl
  · skip
    refine Exec.reg ?_
    refine Run.o ?_
    refine Run.nil ?_
    refine Exec.cndS (by simp only [go_sem] <;> rfl) (fun hb9 => ?_) (fun hb9 => ?_)
    · skip
      have hlt := lt_of_dec hb9
      obtain ⟨s, hs⟩ := elem_of hb9
      refine Exec.skipS ?_
      refine Exec.blk ?_
      refine Exec.reg ?_
      iterate 2 (refine Run.o1 (by simp only [go_sem, hs] <;> rfl) ?_)
      refine Run.nil ?_
      refine Exec.reg ?_
      iterate 3 (refine Run.o1 (by simp only [go_sem, hs] <;> rfl) ?_)
      refine Run.o1 (by simp only [go_sem, hs]; (try simp (disch := omega) only [if_pos]); (try simp only [go_sem, hs])<;> rfl) ?_
      refine Run.o1 (by simp only [go_sem, hs] <;> rfl) ?_
      refine Run.calw (by simp only [go_sem] <;> rfl) (hp s (List.mem_of_getElem? hs)) (by assumption) (by simp only [go_sem, hs] <;> rfl) (by simp only [go_sem, hs] <;> rfl) (by exact ⟨by first | exact WkR.pure rfl | exact WkR.nil _ | exact WkR.int (by omega), wkr_caps _ _ _⟩) (fr0) (by simp only [go_sem, hs] <;> rfl) ?_
      refine Run.nil ?_
      refine Exec.cnd (by simp only [go_sem, hs] <;> rfl) (fun hb16 => ?_) (fun hb16 => ?_)
      · skip
        have hr := find_at hX hs hb16
        refine Exec.reg ?_
        iterate 2 (refine Run.o1 (by simp only [go_sem, hs, hr, idxI] <;> rfl) ?_)
        refine Run.nil ?_
        refine BlkK.ret ?_
        refine ForK.ret ?_
        refine BlkK.ret ?_
        exact Ends.fin [] (rs := [.tmp 4]) rfl (by simp only [go_sem, hs, hr, idxI] <;> rfl) (by simp only [go_sem, hs, hr, idxI] <;> first | rfl | exact eqz)
      · skip
        refine BlkK.nrm ?_
        refine Exec.reg1 ?_
        refine Run.o1 (by simp only [go_sem, hs]; (try simp (disch := omega) only [IntWalk.i64_in, IntWalk.u64_in, if_neg, if_pos])<;> rfl) ?_
        refine Run.o1 (by simp only [go_sem, hs] <;> rfl) ?_
        refine Run.nil ?_
        refine ForK.nxt ?_ ?_ ?_
        · omega
        · exact Ghost.kp [0, 1, 7, 8] [] (by simp only [go_sem, hs] <;> first | exact eqz | rfl)
        · exact any_step hX hs hb16
    · skip
      have hr := find_none hX (ge_of_dec hb9)
      refine Exec.exitS ?_
      refine ForK.ext ?_
      refine BlkK.hit ?_
      refine Exec.reg ?_
      refine Run.o1 (by simp only [go_sem, hr, idxI] <;> rfl) ?_
      refine Run.nil ?_
      exact Ends.fin [] (rs := [.tmp 4]) rfl (by simp only [go_sem, hr, idxI] <;> rfl) (by simp only [go_sem, hr, idxI] <;> first | rfl | exact eqz)

theorem aft_map {l : List Nt} {ps : List Pt} (h : l.map ptOf = ps) (day : Int) : l.findIdx? (fun n => decide (day < n.day)) = aftI ps day := by
  subst h
  unfold aftI
  rw [List.findIdx?_map]
  rfl
theorem nt_at {l : List Nt} {ps : List Pt} (h : l.map ptOf = ps) {i : Nat} (hi : i < ps.length) : ∃ n, l[i]? = some n ∧ n.day = (ptAt ps i).1 ∧ n.fig = (ptAt ps i).2 := by
  subst h
  have hi2 : i < l.length := by simpa using hi
  refine ⟨l[i], List.getElem?_eq_getElem hi2, ?_, ?_⟩ <;>
  · have := ptAt_get hi
    rw [List.getElem?_map, List.getElem?_eq_getElem hi2] at this
    have e : ptOf l[i] = ptAt (l.map ptOf) i := Option.some.inj this
    rw [← e]; rfl
set_option maxRecDepth 20000 in
set_option maxHeartbeats 16000000 in
/-- meterworks/bill.stateOf_1 -/
theorem c_showed (a : Ac) (v : Val a) (known : Int) (ho : ordB a known = true) (l : List Nt) (hL : l.map ptOf = pts a known) (day : Int) (hd : a.start ≤ day ∧ day ≤ 131072) : Contract Try.prog 48 [.int day, .leaf (.d (.pt [nsD l])), .leaf (.d (.pt (encAc a)))] (.int (shw a (pts a known) day)) [] := by
  have hpl := pts_len a known
  have hns := v.nns
  have hst := v.start
  have hfg := v.fig
  have r := rise_of v ho
  have hdd := mul_bnd (x := a.daily) (y := day - a.start) v.daily (Y := 131072) (by omega)
  obtain ⟨n, hn⟩ : ∃ n, (pts a known).length = n := ⟨_, rfl⟩
  have hln : l.length = n := by rw [← hn, ← hL, List.length_map]
  rw [hn] at hpl
  have haf := aft_map hL day
  refine con_of follows_mixed Try.func48 rfl (by simp only [List.length_cons, List.length_nil, Try.ntmps48]; omega) (by kernel_rfl) rfl ?_
  refine Exec.reg ?_
  iterate 2 (refine Run.o1 (by simp only [go_sem, hln, haf, ge_iff_le] <;> rfl) ?_)
  refine Run.nil ?_
  refine Exec.assocS ?_
  refine Exec.reg ?_
  iterate 3 (refine Run.o1 (by simp only [go_sem, hln, haf, ge_iff_le] <;> rfl) ?_)
  refine Run.nil ?_
  refine Exec.cndS (by simp only [go_sem, hln, haf, ge_iff_le] <;> rfl) (fun hb11 => ?_) (fun hb11 => ?_)
  · skip
    have h1l : (pts a known).length = 1 := by rw [hn]; simp at hb11; omega
    have hr : shw a (pts a known) day = a.fig + a.daily * (day - a.start) := if_pos h1l
    refine Exec.assocS ?_
    refine Exec.reg ?_
    iterate 7 (refine Run.o1 (by simp only [go_sem, hln, haf, ge_iff_le, hr] <;> rfl) ?_)
    iterate 3 (refine Run.o1 (by simp only [go_sem, hln, haf, ge_iff_le, hr]; (try simp (disch := omega) only [IntWalk.i64_in, IntWalk.u64_in, if_neg, if_pos])<;> rfl) ?_)
    refine Run.o1 (by simp only [go_sem, hln, haf, ge_iff_le, hr] <;> rfl) ?_
    refine Run.nil ?_
    refine Exec.retS ?_
    exact Ends.fin [] (rs := [.tmp 4]) rfl (by simp only [go_sem, hln, haf, ge_iff_le, hr] <;> rfl) (by simp only [go_sem, hln, haf, ge_iff_le, hr] <;> first | rfl | exact eqz)
  · skip
    have h1n : ¬ n = 1 := by intro e; rw [e] at hb11; simp at hb11
    have h1l : (pts a known).length ≠ 1 := by rw [hn]; exact h1n
    refine Exec.skipS ?_
    by_cases hA : ∃ i, aftI (pts a known) day = some i
    · skip
      obtain ⟨i, hA⟩ := hA
      obtain ⟨g1, g2, g3⟩ := aft_some hA
      obtain ⟨f1, f2, _⟩ := base_facts r h1l hd.1
      have eh : hiI (pts a known) day = i := by unfold hiI; rw [hA]
      have eb : baI (pts a known) day = i - 1 := by unfold baI; rw [hA]
      rw [eh] at f1
      rw [hn] at g1
      have t1 : ((i : Int) - 1).toNat = i - 1 := by omega
      have t2 : ((i : Int)).toNat = i := rfl
      have t3 : decide ((i : Int) < 0) = false := decide_eq_false (by omega)
      obtain ⟨np, hnp, hnp1, hnp2⟩ := nt_at hL (i := (i - 1)) (by omega)
      obtain ⟨nq, hnq, hnq1, hnq2⟩ := nt_at hL (i := i) (by omega)
      have hps := shw_parts v r h1l hd
      have hsm := shw_many (a := a) h1l day
      rw [eh, eb] at hps hsm
      obtain ⟨p1, p2, p3, p4, p5, p6⟩ := hps
      have bq := r.bnd i (by rw [hn]; omega)
      have bp := r.bnd (i - 1) (by rw [hn]; omega)
      have hz : ¬ (ptAt (pts a known) i).1 - (ptAt (pts a known) (i - 1)).1 = 0 := by omega
      refine Exec.reg ?_
      iterate 2 (refine Run.o1 (by simp only [go_sem, hln, haf, ge_iff_le, hA, idxI, t1, t2, t3, hnp, hnq, hnp1, hnp2, hnq1, hnq2, hsm, hz] <;> rfl) ?_)
      refine Run.frz 3 (by simp only [go_sem] <;> rfl) ?_
      refine Run.frz 23 (by simp only [go_sem] <;> rfl) ?_
      refine Run.c1 (c_IndexFunc_Nt (fun n => decide (day < n.day)) (ds := [.pt [.i day]]) (by simp only [go_sem]) l (by omega) (fun s _ => c_after s day)) (by simp only [go_sem, hln, haf, ge_iff_le, hA, idxI, t1, t2, t3, hnp, hnq, hnp1, hnp2, hnq1, hnq2, hsm, hz] <;> rfl) (by simp only [go_sem, hln, haf, ge_iff_le, hA, idxI, t1, t2, t3, hnp, hnq, hnp1, hnp2, hnq1, hnq2, hsm, hz] <;> rfl) ?_
      refine Run.o1 (by simp only [go_sem, hln, haf, ge_iff_le, hA, idxI, t1, t2, t3, hnp, hnq, hnp1, hnp2, hnq1, hnq2, hsm, hz] <;> rfl) ?_
      refine Run.nil ?_
      refine Exec.reg ?_
      refine Run.o1 (by simp only [go_sem, hln, haf, ge_iff_le, hA, idxI, t1, t2, t3, hnp, hnq, hnp1, hnp2, hnq1, hnq2, hsm, hz] <;> rfl) ?_
      refine Run.o1 (by simp only [go_sem, hln, haf, ge_iff_le, hA, idxI, t1, t2, t3, hnp, hnq, hnp1, hnp2, hnq1, hnq2, hsm, hz]; (try simp (disch := omega) only [IntWalk.i64_in, IntWalk.u64_in, if_neg, if_pos])<;> rfl) ?_
      refine Run.o1 (by simp only [go_sem, hln, haf, ge_iff_le, hA, idxI, t1, t2, t3, hnp, hnq, hnp1, hnp2, hnq1, hnq2, hsm, hz] <;> rfl) ?_
      refine Run.nil ?_
      refine Exec.assocS ?_
      refine Exec.reg ?_
      iterate 2 (refine Run.o1 (by simp only [go_sem, hln, haf, ge_iff_le, hA, idxI, t1, t2, t3, hnp, hnq, hnp1, hnp2, hnq1, hnq2, hsm, hz] <;> rfl) ?_)
      refine Run.nil ?_
      refine Exec.cndS (by simp only [go_sem, hln, haf, ge_iff_le, hA, idxI, t1, t2, t3, hnp, hnq, hnp1, hnp2, hnq1, hnq2, hsm, hz] <;> rfl) (fun hb28 => ?_) (fun hb28 => ?_)
      · exact absurd hb28 (by simp)
      · skip
        refine Exec.skipS ?_
        refine Exec.opk 15 ?_
        iterate 2 (refine OpenK.o1 (by simp only [go_sem, hln, haf, ge_iff_le, hA, idxI, t1, t2, t3, hnp, hnq, hnp1, hnp2, hnq1, hnq2, hsm, hz] <;> rfl) ?_)
        refine OpenK.o1 (by simp only [go_sem, hln, haf, ge_iff_le, hA, idxI, t1, t2, t3, hnp, hnq, hnp1, hnp2, hnq1, hnq2, hsm, hz]; (try simp (disch := omega) only [IntWalk.i64_in, IntWalk.u64_in, if_neg, if_pos])<;> rfl) ?_
        refine OpenK.o1 (by simp only [go_sem, hln, haf, ge_iff_le, hA, idxI, t1, t2, t3, hnp, hnq, hnp1, hnp2, hnq1, hnq2, hsm, hz]; (try simp (disch := omega) only [if_pos]); (try simp only [go_sem, hln, haf, ge_iff_le, hA, idxI, t1, t2, t3, hnp, hnq, hnp1, hnp2, hnq1, hnq2, hsm, hz])<;> rfl) ?_
        iterate 3 (refine OpenK.o1 (by simp only [go_sem, hln, haf, ge_iff_le, hA, idxI, t1, t2, t3, hnp, hnq, hnp1, hnp2, hnq1, hnq2, hsm, hz] <;> rfl) ?_)
        refine OpenK.o1 (by simp only [go_sem, hln, haf, ge_iff_le, hA, idxI, t1, t2, t3, hnp, hnq, hnp1, hnp2, hnq1, hnq2, hsm, hz]; (try simp (disch := omega) only [if_pos]); (try simp only [go_sem, hln, haf, ge_iff_le, hA, idxI, t1, t2, t3, hnp, hnq, hnp1, hnp2, hnq1, hnq2, hsm, hz])<;> rfl) ?_
        iterate 5 (refine OpenK.o1 (by simp only [go_sem, hln, haf, ge_iff_le, hA, idxI, t1, t2, t3, hnp, hnq, hnp1, hnp2, hnq1, hnq2, hsm, hz] <;> rfl) ?_)
        refine OpenK.nil (OpenE.fin (by decide +kernel) (by decide +kernel) ?_)
        refine Exec.opk 28 ?_
        iterate 2 (refine OpenK.o1 (by simp only [go_sem, hln, haf, ge_iff_le, hA, idxI, t1, t2, t3, hnp, hnq, hnp1, hnp2, hnq1, hnq2, hsm, hz] <;> rfl) ?_)
        refine OpenK.o1 (by simp only [go_sem, hln, haf, ge_iff_le, hA, idxI, t1, t2, t3, hnp, hnq, hnp1, hnp2, hnq1, hnq2, hsm, hz]; (try simp (disch := omega) only [if_pos]); (try simp only [go_sem, hln, haf, ge_iff_le, hA, idxI, t1, t2, t3, hnp, hnq, hnp1, hnp2, hnq1, hnq2, hsm, hz])<;> rfl) ?_
        iterate 6 (refine OpenK.o1 (by simp only [go_sem, hln, haf, ge_iff_le, hA, idxI, t1, t2, t3, hnp, hnq, hnp1, hnp2, hnq1, hnq2, hsm, hz] <;> rfl) ?_)
        refine OpenK.o1 (by simp only [go_sem, hln, haf, ge_iff_le, hA, idxI, t1, t2, t3, hnp, hnq, hnp1, hnp2, hnq1, hnq2, hsm, hz]; (try simp (disch := omega) only [IntWalk.i64_in, IntWalk.u64_in, if_neg, if_pos])<;> rfl) ?_
        iterate 3 (refine OpenK.o1 (by simp only [go_sem, hln, haf, ge_iff_le, hA, idxI, t1, t2, t3, hnp, hnq, hnp1, hnp2, hnq1, hnq2, hsm, hz] <;> rfl) ?_)
        refine OpenK.o1 (by simp only [go_sem, hln, haf, ge_iff_le, hA, idxI, t1, t2, t3, hnp, hnq, hnp1, hnp2, hnq1, hnq2, hsm, hz]; (try simp (disch := omega) only [if_pos]); (try simp only [go_sem, hln, haf, ge_iff_le, hA, idxI, t1, t2, t3, hnp, hnq, hnp1, hnp2, hnq1, hnq2, hsm, hz])<;> rfl) ?_
        iterate 2 (refine OpenK.o1 (by simp only [go_sem, hln, haf, ge_iff_le, hA, idxI, t1, t2, t3, hnp, hnq, hnp1, hnp2, hnq1, hnq2, hsm, hz] <;> rfl) ?_)
        iterate 2 (refine OpenK.o1 (by simp only [go_sem, hln, haf, ge_iff_le, hA, idxI, t1, t2, t3, hnp, hnq, hnp1, hnp2, hnq1, hnq2, hsm, hz]; (try simp (disch := omega) only [IntWalk.i64_in, IntWalk.u64_in, if_neg, if_pos])<;> rfl) ?_)
        iterate 4 (refine OpenK.o1 (by simp only [go_sem, hln, haf, ge_iff_le, hA, idxI, t1, t2, t3, hnp, hnq, hnp1, hnp2, hnq1, hnq2, hsm, hz] <;> rfl) ?_)
        iterate 3 (refine OpenK.o1 (by simp only [go_sem, hln, haf, ge_iff_le, hA, idxI, t1, t2, t3, hnp, hnq, hnp1, hnp2, hnq1, hnq2, hsm, hz]; (try simp (disch := omega) only [IntWalk.i64_in, IntWalk.u64_in, if_neg, if_pos])<;> rfl) ?_)
        refine OpenK.o1 (by simp only [go_sem, hln, haf, ge_iff_le, hA, idxI, t1, t2, t3, hnp, hnq, hnp1, hnp2, hnq1, hnq2, hsm, hz] <;> rfl) ?_
        refine OpenK.nil (OpenE.finT (by kernel_rfl) (by kernel_rfl) (by kernel_rfl) ?_)
        exact Ends.fin [] (rs := [.tmp 4]) rfl (by simp only [go_sem, hln, haf, ge_iff_le, hA, idxI, t1, t2, t3, hnp, hnq, hnp1, hnp2, hnq1, hnq2, hsm, hz] <;> rfl) (by simp only [go_sem, hln, haf, ge_iff_le, hA, idxI, t1, t2, t3, hnp, hnq, hnp1, hnp2, hnq1, hnq2, hsm, hz] <;> first | rfl | exact eqz)
    · skip
      have hA : aftI (pts a known) day = none := by
        cases h : aftI (pts a known) day with
        | none => rfl
        | some i => exact absurd ⟨i, h⟩ hA
      have eh : hiI (pts a known) day = n - 1 := by unfold hiI; rw [hA, hn]
      have eb : baI (pts a known) day = n - 1 := by unfold baI; rw [hA, hn]
      have t1 : ((n : Int) - 1 - 1).toNat = n - 1 - 1 := by omega
      have t2 : ((n : Int) - 1).toNat = n - 1 := by omega
      have t3 : decide ((-1 : Int) < 0) = true := rfl
      obtain ⟨np, hnp, hnp1, hnp2⟩ := nt_at hL (i := (n - 1 - 1)) (by omega)
      obtain ⟨nq, hnq, hnq1, hnq2⟩ := nt_at hL (i := (n - 1)) (by omega)
      have hps := shw_parts v r h1l hd
      have hsm := shw_many (a := a) h1l day
      rw [eh, eb] at hps hsm
      obtain ⟨p1, p2, p3, p4, p5, p6⟩ := hps
      have bq := r.bnd (n - 1) (by rw [hn]; omega)
      have bp := r.bnd (n - 1 - 1) (by rw [hn]; omega)
      have hz : ¬ (ptAt (pts a known) (n - 1)).1 - (ptAt (pts a known) (n - 1 - 1)).1 = 0 := by omega
      refine Exec.reg ?_
      iterate 2 (refine Run.o1 (by simp only [go_sem, hln, haf, ge_iff_le, hA, idxI, t1, t2, t3, hnp, hnq, hnp1, hnp2, hnq1, hnq2, hsm, hz] <;> rfl) ?_)
      refine Run.frz 3 (by simp only [go_sem] <;> rfl) ?_
      refine Run.frz 23 (by simp only [go_sem] <;> rfl) ?_
      refine Run.c1 (c_IndexFunc_Nt (fun n => decide (day < n.day)) (ds := [.pt [.i day]]) (by simp only [go_sem]) l (by omega) (fun s _ => c_after s day)) (by simp only [go_sem, hln, haf, ge_iff_le, hA, idxI, t1, t2, t3, hnp, hnq, hnp1, hnp2, hnq1, hnq2, hsm, hz] <;> rfl) (by simp only [go_sem, hln, haf, ge_iff_le, hA, idxI, t1, t2, t3, hnp, hnq, hnp1, hnp2, hnq1, hnq2, hsm, hz] <;> rfl) ?_
      refine Run.o1 (by simp only [go_sem, hln, haf, ge_iff_le, hA, idxI, t1, t2, t3, hnp, hnq, hnp1, hnp2, hnq1, hnq2, hsm, hz] <;> rfl) ?_
      refine Run.nil ?_
      refine Exec.reg ?_
      refine Run.o1 (by simp only [go_sem, hln, haf, ge_iff_le, hA, idxI, t1, t2, t3, hnp, hnq, hnp1, hnp2, hnq1, hnq2, hsm, hz] <;> rfl) ?_
      refine Run.o1 (by simp only [go_sem, hln, haf, ge_iff_le, hA, idxI, t1, t2, t3, hnp, hnq, hnp1, hnp2, hnq1, hnq2, hsm, hz]; (try simp (disch := omega) only [IntWalk.i64_in, IntWalk.u64_in, if_neg, if_pos])<;> rfl) ?_
      refine Run.o1 (by simp only [go_sem, hln, haf, ge_iff_le, hA, idxI, t1, t2, t3, hnp, hnq, hnp1, hnp2, hnq1, hnq2, hsm, hz] <;> rfl) ?_
      refine Run.nil ?_
      refine Exec.assocS ?_
      refine Exec.reg ?_
      iterate 2 (refine Run.o1 (by simp only [go_sem, hln, haf, ge_iff_le, hA, idxI, t1, t2, t3, hnp, hnq, hnp1, hnp2, hnq1, hnq2, hsm, hz] <;> rfl) ?_)
      refine Run.nil ?_
      refine Exec.cndS (by simp only [go_sem, hln, haf, ge_iff_le, hA, idxI, t1, t2, t3, hnp, hnq, hnp1, hnp2, hnq1, hnq2, hsm, hz] <;> rfl) (fun hb28 => ?_) (fun hb28 => ?_)
      · skip
        refine Exec.assocS ?_
        refine Exec.reg ?_
        iterate 2 (refine Run.o1 (by simp only [go_sem, hln, haf, ge_iff_le, hA, idxI, t1, t2, t3, hnp, hnq, hnp1, hnp2, hnq1, hnq2, hsm, hz] <;> rfl) ?_)
        refine Run.o1 (by simp only [go_sem, hln, haf, ge_iff_le, hA, idxI, t1, t2, t3, hnp, hnq, hnp1, hnp2, hnq1, hnq2, hsm, hz]; (try simp (disch := omega) only [IntWalk.i64_in, IntWalk.u64_in, if_neg, if_pos])<;> rfl) ?_
        refine Run.o1 (by simp only [go_sem, hln, haf, ge_iff_le, hA, idxI, t1, t2, t3, hnp, hnq, hnp1, hnp2, hnq1, hnq2, hsm, hz] <;> rfl) ?_
        refine Run.nil ?_
        refine Exec.reg ?_
        iterate 2 (refine Run.o1 (by simp only [go_sem, hln, haf, ge_iff_le, hA, idxI, t1, t2, t3, hnp, hnq, hnp1, hnp2, hnq1, hnq2, hsm, hz] <;> rfl) ?_)
        refine Run.nil ?_
        refine Exec.opk 15 ?_
        iterate 2 (refine OpenK.o1 (by simp only [go_sem, hln, haf, ge_iff_le, hA, idxI, t1, t2, t3, hnp, hnq, hnp1, hnp2, hnq1, hnq2, hsm, hz] <;> rfl) ?_)
        refine OpenK.o1 (by simp only [go_sem, hln, haf, ge_iff_le, hA, idxI, t1, t2, t3, hnp, hnq, hnp1, hnp2, hnq1, hnq2, hsm, hz]; (try simp (disch := omega) only [IntWalk.i64_in, IntWalk.u64_in, if_neg, if_pos])<;> rfl) ?_
        refine OpenK.o1 (by simp only [go_sem, hln, haf, ge_iff_le, hA, idxI, t1, t2, t3, hnp, hnq, hnp1, hnp2, hnq1, hnq2, hsm, hz]; (try simp (disch := omega) only [if_pos]); (try simp only [go_sem, hln, haf, ge_iff_le, hA, idxI, t1, t2, t3, hnp, hnq, hnp1, hnp2, hnq1, hnq2, hsm, hz])<;> rfl) ?_
        iterate 3 (refine OpenK.o1 (by simp only [go_sem, hln, haf, ge_iff_le, hA, idxI, t1, t2, t3, hnp, hnq, hnp1, hnp2, hnq1, hnq2, hsm, hz] <;> rfl) ?_)
        refine OpenK.o1 (by simp only [go_sem, hln, haf, ge_iff_le, hA, idxI, t1, t2, t3, hnp, hnq, hnp1, hnp2, hnq1, hnq2, hsm, hz]; (try simp (disch := omega) only [if_pos]); (try simp only [go_sem, hln, haf, ge_iff_le, hA, idxI, t1, t2, t3, hnp, hnq, hnp1, hnp2, hnq1, hnq2, hsm, hz])<;> rfl) ?_
        iterate 5 (refine OpenK.o1 (by simp only [go_sem, hln, haf, ge_iff_le, hA, idxI, t1, t2, t3, hnp, hnq, hnp1, hnp2, hnq1, hnq2, hsm, hz] <;> rfl) ?_)
        refine OpenK.nil (OpenE.fin (by decide +kernel) (by decide +kernel) ?_)
        refine Exec.opk 28 ?_
        iterate 2 (refine OpenK.o1 (by simp only [go_sem, hln, haf, ge_iff_le, hA, idxI, t1, t2, t3, hnp, hnq, hnp1, hnp2, hnq1, hnq2, hsm, hz] <;> rfl) ?_)
        refine OpenK.o1 (by simp only [go_sem, hln, haf, ge_iff_le, hA, idxI, t1, t2, t3, hnp, hnq, hnp1, hnp2, hnq1, hnq2, hsm, hz]; (try simp (disch := omega) only [if_pos]); (try simp only [go_sem, hln, haf, ge_iff_le, hA, idxI, t1, t2, t3, hnp, hnq, hnp1, hnp2, hnq1, hnq2, hsm, hz])<;> rfl) ?_
        iterate 6 (refine OpenK.o1 (by simp only [go_sem, hln, haf, ge_iff_le, hA, idxI, t1, t2, t3, hnp, hnq, hnp1, hnp2, hnq1, hnq2, hsm, hz] <;> rfl) ?_)
        refine OpenK.o1 (by simp only [go_sem, hln, haf, ge_iff_le, hA, idxI, t1, t2, t3, hnp, hnq, hnp1, hnp2, hnq1, hnq2, hsm, hz]; (try simp (disch := omega) only [IntWalk.i64_in, IntWalk.u64_in, if_neg, if_pos])<;> rfl) ?_
        iterate 3 (refine OpenK.o1 (by simp only [go_sem, hln, haf, ge_iff_le, hA, idxI, t1, t2, t3, hnp, hnq, hnp1, hnp2, hnq1, hnq2, hsm, hz] <;> rfl) ?_)
        refine OpenK.o1 (by simp only [go_sem, hln, haf, ge_iff_le, hA, idxI, t1, t2, t3, hnp, hnq, hnp1, hnp2, hnq1, hnq2, hsm, hz]; (try simp (disch := omega) only [if_pos]); (try simp only [go_sem, hln, haf, ge_iff_le, hA, idxI, t1, t2, t3, hnp, hnq, hnp1, hnp2, hnq1, hnq2, hsm, hz])<;> rfl) ?_
        iterate 2 (refine OpenK.o1 (by simp only [go_sem, hln, haf, ge_iff_le, hA, idxI, t1, t2, t3, hnp, hnq, hnp1, hnp2, hnq1, hnq2, hsm, hz] <;> rfl) ?_)
        iterate 2 (refine OpenK.o1 (by simp only [go_sem, hln, haf, ge_iff_le, hA, idxI, t1, t2, t3, hnp, hnq, hnp1, hnp2, hnq1, hnq2, hsm, hz]; (try simp (disch := omega) only [IntWalk.i64_in, IntWalk.u64_in, if_neg, if_pos])<;> rfl) ?_)
        iterate 4 (refine OpenK.o1 (by simp only [go_sem, hln, haf, ge_iff_le, hA, idxI, t1, t2, t3, hnp, hnq, hnp1, hnp2, hnq1, hnq2, hsm, hz] <;> rfl) ?_)
        iterate 3 (refine OpenK.o1 (by simp only [go_sem, hln, haf, ge_iff_le, hA, idxI, t1, t2, t3, hnp, hnq, hnp1, hnp2, hnq1, hnq2, hsm, hz]; (try simp (disch := omega) only [IntWalk.i64_in, IntWalk.u64_in, if_neg, if_pos])<;> rfl) ?_)
        refine OpenK.o1 (by simp only [go_sem, hln, haf, ge_iff_le, hA, idxI, t1, t2, t3, hnp, hnq, hnp1, hnp2, hnq1, hnq2, hsm, hz] <;> rfl) ?_
        refine OpenK.nil (OpenE.finT (by kernel_rfl) (by kernel_rfl) (by kernel_rfl) ?_)
        exact Ends.fin [] (rs := [.tmp 4]) rfl (by simp only [go_sem, hln, haf, ge_iff_le, hA, idxI, t1, t2, t3, hnp, hnq, hnp1, hnp2, hnq1, hnq2, hsm, hz] <;> rfl) (by simp only [go_sem, hln, haf, ge_iff_le, hA, idxI, t1, t2, t3, hnp, hnq, hnp1, hnp2, hnq1, hnq2, hsm, hz] <;> first | rfl | exact eqz)
      · exact absurd hb28 (by simp)

end Go.Mw

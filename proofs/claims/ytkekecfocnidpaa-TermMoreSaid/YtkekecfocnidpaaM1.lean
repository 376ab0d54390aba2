/- The statement about the term: a proof more. -/
import Derived.Test.YtkekecfocnidpaaB10
import Derived.Test.YtkekecfocnidpaaB4
import Derived.Test.YtkekecfocnidpaaRows
set_option linter.unusedSimpArgs false
set_option linter.unusedVariables false
set_option linter.unusedSectionVars false
set_option linter.deprecated false
namespace Go.Mw
open Go.Proofs
open Go.Te
attribute [local go_sem] decide_true beq_self_eq_true bne_self_eq_false
theorem withP_small {s : Stk} {p : Pf} (h : Small s) (hp : s.ps.length < 12) (hl : p.seals.length ≤ 30) : Small (withP s p) := by
  refine ⟨h.cs, h.rs, ?_, h.bs, fun q hq => ?_⟩
  · show (s.ps ++ [p]).length ≤ 100
    simp; omega
  · have : q ∈ s.ps ++ [p] := hq
    rcases List.mem_append.1 this with h1 | h1
    · exact h.ss q h1
    · rw [List.mem_singleton.1 h1]; omega
theorem days_of {s : Stk} {d : Int} (h : (s.ps.take s.ps.length).any (fun q => decide (q.day > d)) = false) : ∀ q ∈ s.ps, q.day ≤ d := by
  rw [List.take_length, List.any_eq_false] at h
  intro q hq
  have := h q hq
  simp only [decide_eq_true_eq] at this
  omega
set_option maxRecDepth 60000 in
set_option maxHeartbeats 64000000 in
/-- meterworks/meterworkslaw07.TermMore -/
theorem c_law_TermMore (s : Stk) (p : Pf) (x : Int) : Contract Try.prog 7 [stkV s, pfV p, .int x] (.bool true) [] := by
  refine con_of follows_mixed Try.func7 rfl (by simp only [List.length_cons, List.length_nil, Try.ntmps7]; omega) (by kernel_rfl) rfl ?_
  refine Exec.reg ?_
  iterate 3 (refine Run.o ?_)
  refine Run.nil ?_
  refine Exec.assocS ?_
  by_cases hbl : largeB s 1099511627776 = true
  · skip
    refine Exec.reg ?_
    refine Run.o1 (by simp only [go_sem, hbl] <;> rfl) ?_
    refine Run.c1 (c_law_large s 1099511627776 (by decide)) (by simp only [go_sem, hbl] <;> rfl) (by simp only [go_sem, hbl] <;> rfl) ?_
    refine Run.o1 (by simp only [go_sem, hbl] <;> rfl) ?_
    iterate 4 (refine Run.s ?_)
    iterate 2 (refine Run.o1 (by simp only [go_sem, hbl] <;> rfl) ?_)
    iterate 4 (refine Run.s ?_)
    refine Run.o1 (by simp only [go_sem, hbl] <;> rfl) ?_
    refine Run.nil ?_
    refine Exec.cndS (by simp only [go_sem, hbl] <;> rfl) (fun hb29 => ?_) (fun hb29 => ?_)
    · skip
      refine Exec.assocS ?_
      refine Exec.reg ?_
      refine Run.c1 (c_law_awake) (by simp only [go_sem, hbl] <;> rfl) (by simp only [go_sem, hbl] <;> rfl) ?_
      refine Run.o ?_
      refine Run.nil ?_
      refine Exec.retS ?_
      exact Ends.fin [] (rs := [.tmp 6]) rfl (by simp only [go_sem, hbl] <;> rfl) (by simp only [go_sem, hbl] <;> first | rfl | ((repeat' (first | with_reducible_and_instances rfl | refine st_eq ?_ ?_ ?_ | refine ret_eq ?_ | refine tup_eq ?_ | refine tm_eq ?_ ?_ | refine arr_eq ?_ | refine cells_eq ?_ | refine val_eq ?_ | refine ls_eq ?_ ?_ | refine own_eq ?_ ?_ | refine sl_eq ?_ | refine b_eq ?_ | (refine i_eq ?_; omega))); done))
    · exact absurd hb29 (by simp)
  have hbl : largeB s 1099511627776 = false := by simpa using hbl
  obtain ⟨hsm, _⟩ := large_small hbl
  by_cases hp12 : (s.ps.length : Int) ≥ 12
  · skip
    have g0 : decide ((s.ps.length : Int) ≥ 12) = true := decide_eq_true hp12
    refine Exec.reg ?_
    refine Run.o1 (by simp only [go_sem, hbl, g0] <;> rfl) ?_
    refine Run.c1 (c_law_large s 1099511627776 (by decide)) (by simp only [go_sem, hbl, g0] <;> rfl) (by simp only [go_sem, hbl, g0] <;> rfl) ?_
    refine Run.o1 (by simp only [go_sem, hbl, g0] <;> rfl) ?_
    refine Run.y1 (by simp only [go_sem] <;> rfl) ?_
    iterate 3 (refine Run.y1 (by simp only [go_sem, hbl, g0] <;> rfl) ?_)
    iterate 2 (refine Run.o1 (by simp only [go_sem, hbl, g0] <;> rfl) ?_)
    iterate 4 (refine Run.s ?_)
    refine Run.o1 (by simp only [go_sem, hbl, g0] <;> rfl) ?_
    refine Run.nil ?_
    refine Exec.cndS (by simp only [go_sem, hbl, g0] <;> rfl) (fun hb29 => ?_) (fun hb29 => ?_)
    · skip
      refine Exec.assocS ?_
      refine Exec.reg ?_
      refine Run.c1 (c_law_awake) (by simp only [go_sem, hbl, g0] <;> rfl) (by simp only [go_sem, hbl, g0] <;> rfl) ?_
      refine Run.o ?_
      refine Run.nil ?_
      refine Exec.retS ?_
      exact Ends.fin [] (rs := [.tmp 6]) rfl (by simp only [go_sem, hbl, g0] <;> rfl) (by simp only [go_sem, hbl, g0] <;> first | rfl | ((repeat' (first | with_reducible_and_instances rfl | refine st_eq ?_ ?_ ?_ | refine ret_eq ?_ | refine tup_eq ?_ | refine tm_eq ?_ ?_ | refine arr_eq ?_ | refine cells_eq ?_ | refine val_eq ?_ | refine ls_eq ?_ ?_ | refine own_eq ?_ ?_ | refine sl_eq ?_ | refine b_eq ?_ | (refine i_eq ?_; omega))); done))
    · exact absurd hb29 (by simp)
  have g0 : decide ((s.ps.length : Int) ≥ 12) = false := decide_eq_false hp12
  refine Exec.reg ?_
  refine Run.o1 (by simp only [go_sem, hbl, g0] <;> rfl) ?_
  refine Run.c1 (c_law_large s 1099511627776 (by decide)) (by simp only [go_sem, hbl, g0] <;> rfl) (by simp only [go_sem, hbl, g0] <;> rfl) ?_
  refine Run.o1 (by simp only [go_sem, hbl, g0] <;> rfl) ?_
  refine Run.y1 (by simp only [go_sem] <;> rfl) ?_
  iterate 3 (refine Run.y1 (by simp only [go_sem, hbl, g0] <;> rfl) ?_)
  iterate 2 (refine Run.o1 (by simp only [go_sem, hbl, g0] <;> rfl) ?_)
  refine Run.y1 (by simp only [go_sem] <;> rfl) ?_
  iterate 3 (refine Run.y1 (by simp only [go_sem, hbl, g0] <;> rfl) ?_)
  refine Run.o1 (by simp only [go_sem, hbl, g0] <;> rfl) ?_
  refine Run.nil ?_
  refine Exec.cndS (by simp only [go_sem, hbl, g0] <;> rfl) (fun hb29 => ?_) (fun hb29 => ?_)
  · skip
    refine Exec.assocS ?_
    refine Exec.reg ?_
    refine Run.c1 (c_law_awake) (by simp only [go_sem, hbl, g0] <;> rfl) (by simp only [go_sem, hbl, g0] <;> rfl) ?_
    refine Run.o ?_
    refine Run.nil ?_
    refine Exec.retS ?_
    exact Ends.fin [] (rs := [.tmp 6]) rfl (by simp only [go_sem, hbl, g0] <;> rfl) (by simp only [go_sem, hbl, g0] <;> first | rfl | ((repeat' (first | with_reducible_and_instances rfl | refine st_eq ?_ ?_ ?_ | refine ret_eq ?_ | refine tup_eq ?_ | refine tm_eq ?_ ?_ | refine arr_eq ?_ | refine cells_eq ?_ | refine val_eq ?_ | refine ls_eq ?_ ?_ | refine own_eq ?_ ?_ | refine sl_eq ?_ | refine b_eq ?_ | (refine i_eq ?_; omega))); done))
  have hpl : ¬ (p.seals.length : Int) > 30 := of_decide_eq_false hb29
  refine Exec.skipS ?_
  refine Exec.assocS ?_
  refine Exec.reg ?_
  refine Run.o ?_
  refine Run.nil ?_
  refine Exec.blk ?_
  refine Exec.forA [2, 3, 4, 7] [3, 4] (s.ps.length) (fun k => [.slot 7 (.int k)]) (fun k => (s.ps.take k).any (fun q : Pf => decide (q.day > p.day)) = false) (fun k => by simp only [go_sem] <;> rfl) (by simp only [go_sem, hbl, g0] <;> rfl) ?_ (fun k hk hX => ?_)
  · rfl
  refine Exec.assocS ?_
  refine Exec.reg ?_
  iterate 2 (refine Run.o ?_)
  iterate 3 (refine Run.o1 (by simp only [go_sem, hbl, g0] <;> rfl) ?_)
  refine Run.nil ?_
  refine Exec.cndS (by simp only [go_sem, hbl, g0] <;> rfl) (fun hb35 => ?_) (fun hb35 => ?_)
  · skip
    have hlt := lt_of_dec hb35
    obtain ⟨q, hq⟩ : ∃ q, s.ps[k]? = some q := ⟨_, List.getElem?_eq_getElem hlt⟩
    refine Exec.skipS ?_
    refine Exec.blk ?_
    refine Exec.opk 11 ?_
    refine OpenK.o ?_
    refine OpenK.o1 (by simp only [go_sem, hbl, g0, hq] <;> rfl) ?_
    refine OpenK.o ?_
    refine OpenK.o1 (by simp only [go_sem, hbl, g0, hq]; (try simp (disch := omega) only [if_pos]); (try simp only [go_sem, hbl, g0, hq])<;> rfl) ?_
    refine OpenK.o ?_
    refine OpenK.o1 (by simp only [go_sem, hbl, g0, hq] <;> rfl) ?_
    refine OpenK.o ?_
    iterate 2 (refine OpenK.o1 (by simp only [go_sem, hbl, g0, hq] <;> rfl) ?_)
    refine OpenK.nil (OpenE.fin (by decide +kernel) (by decide +kernel) ?_)
    refine Exec.cnd (by simp only [go_sem, hbl, g0, hq] <;> rfl) (fun hb46 => ?_) (fun hb46 => ?_)
    · skip
      refine Exec.reg ?_
      refine Run.c1 (c_law_awake) (by simp only [go_sem, hbl, g0, hq] <;> rfl) (by simp only [go_sem, hbl, g0, hq] <;> rfl) ?_
      refine Run.o ?_
      refine Run.nil ?_
      refine BlkK.ret ?_
      refine ForK.ret ?_
      refine BlkK.ret ?_
      exact Ends.fin [] (rs := [.tmp 6]) rfl (by simp only [go_sem, hbl, g0, hq] <;> rfl) (by simp only [go_sem, hbl, g0, hq] <;> first | rfl | ((repeat' (first | with_reducible_and_instances rfl | refine st_eq ?_ ?_ ?_ | refine ret_eq ?_ | refine tup_eq ?_ | refine tm_eq ?_ ?_ | refine arr_eq ?_ | refine cells_eq ?_ | refine val_eq ?_ | refine ls_eq ?_ ?_ | refine own_eq ?_ ?_ | refine sl_eq ?_ | refine b_eq ?_ | (refine i_eq ?_; omega))); done))
    refine BlkK.nrm ?_
    refine Exec.reg1 ?_
    refine Run.o ?_
    refine Run.o1 (by simp only [go_sem, hbl, g0, hq]; (try simp (disch := omega) only [IntWalk.i64_in, IntWalk.u64_in, if_neg, if_pos])<;> rfl) ?_
    refine Run.o ?_
    refine Run.nil ?_
    refine ForK.nxt ?_ ?_ ?_
    · omega
    · exact Ghost.kp [2, 3, 4, 7] [3, 4] (by simp only [go_sem, hbl, g0, hq]; first | ((repeat' (first | with_reducible_and_instances rfl | refine st_eq ?_ ?_ ?_ | refine ret_eq ?_ | refine tup_eq ?_ | refine tm_eq ?_ ?_ | refine arr_eq ?_ | refine cells_eq ?_ | refine val_eq ?_ | refine ls_eq ?_ ?_ | refine own_eq ?_ ?_ | refine sl_eq ?_ | refine b_eq ?_ | (refine i_eq ?_; omega))); done) | rfl)
    · rw [snoc_take hq, List.any_append, hX, List.any_cons, List.any_nil, Bool.or_false, Bool.false_or]; simpa using hb46
  have hke : k = s.ps.length := by have := ge_of_dec hb35; omega
  subst hke
  have hdq := days_of hX
  have hsw := withP_small (p := p) hsm (by omega) (by omega)
  have hE := c_term_End s hsm x
  have hF := c_term_End (withP s p) hsw x
  have hR := c_meterworksref07_Row s x (by have := hsm.rs; omega)
  have hSt := c_meterworksref07_Stock (withP s p) hsw
  unfold endV at hE hF
  have hes : List.take (s.ps.length + 1) (s.ps.map encPf ++ [[D.i p.cl, D.i p.day, intsD p.seals, D.i p.failed]]) = (s.ps ++ [p]).map encPf := by rw [List.take_of_length_le (by simp), List.map_append]; rfl
  have hes2 : (s.ps.map encPf ++ [[D.i p.cl, D.i p.day, intsD p.seals, D.i p.failed]]).length = s.ps.length + 1 := by simp
  refine Exec.exitS ?_
  refine ForK.ext ?_
  refine BlkK.hit ?_
  refine Exec.reg ?_
  refine Run.o1 (by simp only [go_sem, hbl, g0] <;> rfl) ?_
  iterate 2 (refine Run.o ?_)
  refine Run.nil ?_
  refine Exec.opk 11 ?_
  refine OpenK.o1 (by simp only [go_sem, hbl, g0] <;> rfl) ?_
  refine OpenK.o ?_
  refine OpenK.o1 (by simp only [go_sem, hbl, g0] <;> rfl) ?_
  refine OpenK.o1 (by simp only [go_sem, hbl, g0]; (try simp (disch := omega) only [if_pos]); (try simp only [go_sem, hbl, g0]) <;> first | (refine ite_run ⟨by (try simp only [List.length_append, List.length_drop, List.length_take, List.length_map, List.length_cons, List.length_nil, List.length_replicate, List.length_set, List.length_range, Nat.zero_add]); omega, by (try simp only [List.length_append, List.length_drop, List.length_take, List.length_map, List.length_cons, List.length_nil, List.length_replicate, List.length_set, List.length_range, Nat.zero_add]); omega, by repeat (first | exact al_nil | assumption | refine al_app ?_ ?_ | refine al_drop ?_ | refine al_take ?_ | exact al_map (fun _ => rfl) | exact al_rep rfl | refine al_cons rfl ?_)⟩ ?_; simp only [go_sem, hbl, g0] <;> rfl) | (refine ite_run ⟨by (try simp only [List.length_append, List.length_drop, List.length_take, List.length_map, List.length_cons, List.length_nil, List.length_replicate, List.length_set, List.length_range, Nat.zero_add]); omega, by repeat (first | exact al_nil | assumption | refine al_app ?_ ?_ | refine al_drop ?_ | refine al_take ?_ | exact al_map (fun _ => rfl) | exact al_rep rfl | refine al_cons rfl ?_)⟩ ?_; simp only [go_sem, hbl, g0] <;> rfl) | rfl) ?_
  iterate 2 (refine OpenK.o1 (by simp only [go_sem, hbl, g0] <;> rfl) ?_)
  refine OpenK.o1 (by simp only [go_sem, hbl, g0]; (try simp (disch := omega) only [if_pos]); (try simp only [go_sem, hbl, g0]) <;> first | (refine ite_run ⟨by (try simp only [List.length_append, List.length_drop, List.length_take, List.length_map, List.length_cons, List.length_nil, List.length_replicate, List.length_set, List.length_range, Nat.zero_add]); omega, by (try simp only [List.length_append, List.length_drop, List.length_take, List.length_map, List.length_cons, List.length_nil, List.length_replicate, List.length_set, List.length_range, Nat.zero_add]); omega, by repeat (first | exact al_nil | assumption | refine al_app ?_ ?_ | refine al_drop ?_ | refine al_take ?_ | exact al_map (fun _ => rfl) | exact al_rep rfl | refine al_cons rfl ?_)⟩ ?_; simp only [go_sem, hbl, g0] <;> rfl) | (refine ite_run ⟨by (try simp only [List.length_append, List.length_drop, List.length_take, List.length_map, List.length_cons, List.length_nil, List.length_replicate, List.length_set, List.length_range, Nat.zero_add]); omega, by repeat (first | exact al_nil | assumption | refine al_app ?_ ?_ | refine al_drop ?_ | refine al_take ?_ | exact al_map (fun _ => rfl) | exact al_rep rfl | refine al_cons rfl ?_)⟩ ?_; simp only [go_sem, hbl, g0] <;> rfl) | rfl) ?_
  iterate 2 (refine OpenK.o ?_)
  refine OpenK.nil (OpenE.fin (by decide +kernel) (by decide +kernel) ?_)
  refine Exec.reg ?_
  refine Run.frz 49 (by simp only [go_sem, List.drop_zero, hes, hes2, if_true] <;> rfl) ?_
  refine Run.o1 (by simp only [go_sem, hbl, g0] <;> rfl) ?_
  refine Run.o ?_
  refine Run.c1 (hE) (by simp only [go_sem, hbl, g0] <;> rfl) (by simp only [go_sem, hbl, g0] <;> rfl) ?_
  refine Run.o ?_
  iterate 3 (refine Run.o1 (by simp only [go_sem, hbl, g0] <;> rfl) ?_)
  iterate 3 (refine Run.o ?_)
  refine Run.nil ?_
  refine Exec.reg ?_
  refine Run.o1 (by simp only [go_sem, hbl, g0] <;> rfl) ?_
  refine Run.o ?_
  refine Run.c1 (hF) (by simp only [go_sem, hbl, g0] <;> rfl) (by simp only [go_sem, hbl, g0] <;> rfl) ?_
  refine Run.o ?_
  iterate 3 (refine Run.o1 (by simp only [go_sem, hbl, g0] <;> rfl) ?_)
  iterate 3 (refine Run.o ?_)
  refine Run.nil ?_
  refine Exec.assocS ?_
  by_cases he0 : (endR s x).2.2 = 0
  · skip
    have g5 : ((endR s x).2.2 != 0) = false := by rw [he0, bne_self_eq_false]
    have g5b : ((endR s x).2.2 == 0) = true := by rw [he0, beq_self_eq_true]
    refine Exec.reg ?_
    refine Run.o ?_
    iterate 2 (refine Run.o1 (by simp only [go_sem, hbl, g0, g5, g5b] <;> rfl) ?_)
    refine Run.y1 (by simp only [go_sem] <;> rfl) ?_
    refine Run.y1 (by simp only [go_sem, hbl, g0, g5, g5b] <;> rfl) ?_
    refine Run.o1 (by simp only [go_sem, hbl, g0, g5, g5b] <;> rfl) ?_
    refine Run.nil ?_
    refine Exec.cndS (by simp only [go_sem, hbl, g0, g5, g5b] <;> rfl) (fun hb76 => ?_) (fun hb76 => ?_)
    · skip
      have g6 : ((endR (withP s p) x).2.2 != 0) = true := by simpa using hb76
      refine Exec.assocS ?_
      refine Exec.reg ?_
      refine Run.o ?_
      iterate 2 (refine Run.o1 (by simp only [go_sem, hbl, g0, g5, g5b, g6] <;> rfl) ?_)
      iterate 2 (refine Run.s ?_)
      iterate 2 (refine Run.o1 (by simp only [go_sem, hbl, g0, g5, g5b, g6] <;> rfl) ?_)
      refine Run.calw (by simp only [go_sem] <;> rfl) (c_law_awake) (by simp only [go_sem]) (by simp only [go_sem, hbl, g0, g5, g5b, g6] <;> rfl) (by simp only [go_sem, hbl, g0, g5, g5b, g6] <;> rfl) (by exact trivial) (fr0) (by simp only [go_sem, hbl, g0, g5, g5b, g6] <;> rfl) ?_
      refine Run.o1 (by simp only [go_sem, hbl, g0, g5, g5b, g6] <;> rfl) ?_
      refine Run.o ?_
      refine Run.nil ?_
      refine Exec.retS ?_
      exact Ends.fin [] (rs := [.tmp 6]) rfl (by simp only [go_sem, hbl, g0, g5, g5b, g6] <;> rfl) (by simp only [go_sem, hbl, g0, g5, g5b, g6] <;> first | rfl | ((repeat' (first | with_reducible_and_instances rfl | refine st_eq ?_ ?_ ?_ | refine ret_eq ?_ | refine tup_eq ?_ | refine tm_eq ?_ ?_ | refine arr_eq ?_ | refine cells_eq ?_ | refine val_eq ?_ | refine ls_eq ?_ ?_ | refine own_eq ?_ ?_ | refine sl_eq ?_ | refine b_eq ?_ | (refine i_eq ?_; omega))); done))
    have he1 : (endR (withP s p) x).2.2 = 0 := by simpa using hb76
    obtain ⟨hokx, ix, hix⟩ := endR_zero he1
    obtain ⟨hok, ri, hri⟩ := endR_zero he0
    have hixe : ix = ri := by have h2 : rowI s x = some ix := hix; rw [hri] at h2; cases h2; rfl
    subst hixe
    obtain ⟨hril, _⟩ := rowI_lt hri
    have hEr := endR_at hok hri
    have hEx := endR_at hokx hix
    have hem := end_more hdq hokx hril
    rw [hem] at hEx
    have hstx := (terms_zero hokx).1
    have hvx := stock_val hstx
    have hpv := hvx.prf p (show p ∈ s.ps ++ [p] from List.mem_append_right _ (List.mem_singleton.2 rfl))
    have hcp := clsOf_get (s := withP s p) hpv.1.1 hpv.1.2
    have hPass := c_meterworksref07_Passes (withP s p) p _ hcp hpv.1.1 (by omega)
    have ePass : decide ((popc p.failed.toNat : Int) ≤ (clsOf (withP s p) p.cl).fail) = passB s p := rfl
    rw [ePass] at hPass
    have hcv := hvx.cls _ (cls_mem hpv.1.1 hpv.1.2)
    have hcv : 0 ≤ (clsOf s p.cl).more := by have : (clsOf (withP s p) p.cl).more = (clsOf s p.cl).more := rfl; omega
    obtain ⟨w1, w2, w3⟩ := step_told (s := s) (p := p) (r := rowOf s ix) (t := endAt (termsR s).1 ix) hcv
    have htl := tmb_st (good_of hok).v _ (Nat.le_refl _)
    rw [← (terms_zero hok).2.1] at htl
    have htb := htl.bnd (endAt (termsR s).1 ix) (by rw [endAt_of (List.getElem?_eq_getElem (show ix < (termsR s).1.length by rw [htl.len]; exact hril))]; exact List.getElem_mem _)
    obtain ⟨t, ht⟩ : ∃ t, endAt (termsR s).1 ix = t := ⟨_, rfl⟩
    rw [ht] at w1 w2 w3 hEr hEx htb
    obtain ⟨u, hu⟩ : ∃ u, step1 s p (rowOf s ix) t = u := ⟨_, rfl⟩
    rw [hu] at w1 w2 w3 hEx
    rw [hEr] at hE
    rw [hEx] at hF
    rw [hri] at hR
    have hR : Contract Try.prog _ [stkV s, .int x] (.int (ix : Int)) [] := hR
    have hrr := rowOf_get hril
    have hrd : decide ((ix : Int) < 0) = false := by simp
    have htn : ((ix : Int)).toNat = ix := rfl
    refine Exec.skipS ?_
    refine Exec.reg ?_
    refine Run.o1 (by simp only [go_sem, hbl, g0, g5, g5b, hrr, hrd, htn, hstx, Bool.not_true, hEr, hEx] <;> rfl) ?_
    refine Run.o ?_
    refine Run.c1 (hR) (by simp only [go_sem, hbl, g0, g5, g5b, hrr, hrd, htn, hstx, Bool.not_true, hEr, hEx] <;> rfl) (by simp only [go_sem, hbl, g0, g5, g5b, hrr, hrd, htn, hstx, Bool.not_true, hEr, hEx] <;> rfl) ?_
    refine Run.o ?_
    refine Run.nil ?_
    refine Exec.assocS ?_
    refine Exec.reg ?_
    refine Run.o ?_
    iterate 2 (refine Run.o1 (by simp only [go_sem, hbl, g0, g5, g5b, hrr, hrd, htn, hstx, Bool.not_true, hEr, hEx] <;> rfl) ?_)
    refine Run.y1 (by simp only [go_sem, hbl, g0, g5, g5b, hrr, hrd, htn, hstx, Bool.not_true, hEr, hEx] <;> rfl) ?_
    refine Run.calw (by simp only [go_sem] <;> rfl) (hSt) (by simp only [go_sem]) (by simp only [go_sem, hbl, g0, g5, g5b, hrr, hrd, htn, hstx, Bool.not_true, hEr, hEx] <;> rfl) (by simp only [go_sem, hbl, g0, g5, g5b, hrr, hrd, htn, hstx, Bool.not_true, hEr, hEx] <;> rfl) (by exact ⟨by first | exact WkR.pure rfl | exact WkR.nil _ | exact WkR.int (by first | omega | (simp; done) | (simp; omega)), trivial⟩) (fr0) (by simp only [go_sem, hbl, g0, g5, g5b, hrr, hrd, htn, hstx, Bool.not_true, hEr, hEx] <;> rfl) ?_
    refine Run.y1 (by simp only [go_sem, hbl, g0, g5, g5b, hrr, hrd, htn, hstx, Bool.not_true, hEr, hEx] <;> rfl) ?_
    refine Run.o1 (by simp only [go_sem, hbl, g0, g5, g5b, hrr, hrd, htn, hstx, Bool.not_true, hEr, hEx] <;> rfl) ?_
    refine Run.nil ?_
    refine Exec.cndS (by simp only [go_sem, hbl, g0, g5, g5b, hrr, hrd, htn, hstx, Bool.not_true, hEr, hEx] <;> rfl) (fun hb95 => ?_) (fun hb95 => ?_)
    · exact absurd hb95 (by simp)
    refine Exec.skipS ?_
    refine Exec.assocS ?_
    refine Exec.opk 11 ?_
    refine OpenK.o ?_
    refine OpenK.o1 (by simp only [go_sem, hbl, g0, g5, g5b, hrr, hrd, htn, hstx, Bool.not_true, hEr, hEx] <;> rfl) ?_
    refine OpenK.o ?_
    refine OpenK.o1 (by simp only [go_sem, hbl, g0, g5, g5b, hrr, hrd, htn, hstx, Bool.not_true, hEr, hEx]; (try simp (disch := omega) only [if_pos]); (try simp only [go_sem, hbl, g0, g5, g5b, hrr, hrd, htn, hstx, Bool.not_true, hEr, hEx])<;> rfl) ?_
    refine OpenK.o ?_
    refine OpenK.o1 (by simp only [go_sem, hbl, g0, g5, g5b, hrr, hrd, htn, hstx, Bool.not_true, hEr, hEx] <;> rfl) ?_
    refine OpenK.o ?_
    iterate 2 (refine OpenK.o1 (by simp only [go_sem, hbl, g0, g5, g5b, hrr, hrd, htn, hstx, Bool.not_true, hEr, hEx] <;> rfl) ?_)
    refine OpenK.nil (OpenE.fin (by decide +kernel) (by decide +kernel) ?_)
    refine Exec.cndS (by simp only [go_sem, hbl, g0, g5, g5b, hrr, hrd, htn, hstx, Bool.not_true, hEr, hEx] <;> rfl) (fun hb104 => ?_) (fun hb104 => ?_)
    · skip
      have hne : (rowOf s ix).cl ≠ p.cl := by simpa using hb104
      have hut := w1 hne
      subst hut
      refine Exec.assocS ?_
      refine Exec.reg ?_
      iterate 2 (refine Run.o ?_)
      iterate 2 (refine Run.o1 (by simp only [go_sem, hbl, g0, g5, g5b, hrr, hrd, htn, hstx, Bool.not_true, hEr, hEx] <;> rfl) ?_)
      iterate 2 (refine Run.y1 (by simp only [go_sem] <;> rfl) ?_)
      refine Run.y1 (by simp only [go_sem, hbl, g0, g5, g5b, hrr, hrd, htn, hstx, Bool.not_true, hEr, hEx] <;> rfl) ?_
      iterate 2 (refine Run.o1 (by simp only [go_sem, hbl, g0, g5, g5b, hrr, hrd, htn, hstx, Bool.not_true, hEr, hEx] <;> rfl) ?_)
      refine Run.calw (by simp only [go_sem] <;> rfl) (c_law_awake) (by simp only [go_sem]) (by simp only [go_sem, hbl, g0, g5, g5b, hrr, hrd, htn, hstx, Bool.not_true, hEr, hEx] <;> rfl) (by simp only [go_sem, hbl, g0, g5, g5b, hrr, hrd, htn, hstx, Bool.not_true, hEr, hEx] <;> rfl) (by exact trivial) (fr0) (by simp only [go_sem, hbl, g0, g5, g5b, hrr, hrd, htn, hstx, Bool.not_true, hEr, hEx] <;> rfl) ?_
      refine Run.o1 (by simp only [go_sem, hbl, g0, g5, g5b, hrr, hrd, htn, hstx, Bool.not_true, hEr, hEx] <;> rfl) ?_
      refine Run.o ?_
      refine Run.nil ?_
      refine Exec.retS ?_
      exact Ends.fin [] (rs := [.tmp 6]) rfl (by simp only [go_sem, hbl, g0, g5, g5b, hrr, hrd, htn, hstx, Bool.not_true, hEr, hEx] <;> rfl) (by simp only [go_sem, hbl, g0, g5, g5b, hrr, hrd, htn, hstx, Bool.not_true, hEr, hEx] <;> first | rfl | ((repeat' (first | with_reducible_and_instances rfl | refine st_eq ?_ ?_ ?_ | refine ret_eq ?_ | refine tup_eq ?_ | refine tm_eq ?_ ?_ | refine arr_eq ?_ | refine cells_eq ?_ | refine val_eq ?_ | refine ls_eq ?_ ?_ | refine own_eq ?_ ?_ | refine sl_eq ?_ | refine b_eq ?_ | (refine i_eq ?_; omega))); done))
    refine Exec.skipS ?_
    refine Exec.assocS ?_
    refine Exec.reg ?_
    iterate 2 (refine Run.o1 (by simp only [go_sem, hbl, g0, g5, g5b, hrr, hrd, htn, hstx, Bool.not_true, hEr, hEx] <;> rfl) ?_)
    refine Run.c1 (hPass) (by simp only [go_sem, hbl, g0, g5, g5b, hrr, hrd, htn, hstx, Bool.not_true, hEr, hEx] <;> rfl) (by simp only [go_sem, hbl, g0, g5, g5b, hrr, hrd, htn, hstx, Bool.not_true, hEr, hEx] <;> rfl) ?_
    refine Run.nil ?_
    refine Exec.cndS (by simp only [go_sem, hbl, g0, g5, g5b, hrr, hrd, htn, hstx, Bool.not_true, hEr, hEx] <;> rfl) (fun hb118 => ?_) (fun hb118 => ?_)
    · skip
      have hps : passB s p = true := by simpa using hb118
      obtain ⟨v1, v2, v3⟩ := w2 hps
      have k1 : decide (u.1 ≥ t.1) = true := decide_eq_true v1
      have k2 : decide (u.2 ≥ t.2) = true := decide_eq_true v2
      have k3 : decide (u.2 ≤ t.2 + 1) = true := decide_eq_true v3
      refine Exec.assocS ?_
      refine Exec.reg ?_
      iterate 2 (refine Run.o ?_)
      iterate 2 (refine Run.o1 (by simp only [go_sem, hbl, g0, g5, g5b, hrr, hrd, htn, hstx, Bool.not_true, hEr, hEx, k1, k2, k3] <;> rfl) ?_)
      iterate 2 (refine Run.y1 (by simp only [go_sem] <;> rfl) ?_)
      refine Run.y1 (by simp only [go_sem, hbl, g0, g5, g5b, hrr, hrd, htn, hstx, Bool.not_true, hEr, hEx, k1, k2, k3] <;> rfl) ?_
      iterate 2 (refine Run.o1 (by simp only [go_sem, hbl, g0, g5, g5b, hrr, hrd, htn, hstx, Bool.not_true, hEr, hEx, k1, k2, k3] <;> rfl) ?_)
      iterate 2 (refine Run.y1 (by simp only [go_sem] <;> rfl) ?_)
      refine Run.y1 (by simp only [go_sem, hbl, g0, g5, g5b, hrr, hrd, htn, hstx, Bool.not_true, hEr, hEx, k1, k2, k3]; (try simp (disch := omega) only [IntWalk.i64_in, IntWalk.u64_in, if_neg, if_pos])<;> rfl) ?_
      refine Run.y1 (by simp only [go_sem, hbl, g0, g5, g5b, hrr, hrd, htn, hstx, Bool.not_true, hEr, hEx, k1, k2, k3] <;> rfl) ?_
      iterate 2 (refine Run.o1 (by simp only [go_sem, hbl, g0, g5, g5b, hrr, hrd, htn, hstx, Bool.not_true, hEr, hEx, k1, k2, k3] <;> rfl) ?_)
      refine Run.calw (by simp only [go_sem] <;> rfl) (c_law_awake) (by simp only [go_sem]) (by simp only [go_sem, hbl, g0, g5, g5b, hrr, hrd, htn, hstx, Bool.not_true, hEr, hEx, k1, k2, k3] <;> rfl) (by simp only [go_sem, hbl, g0, g5, g5b, hrr, hrd, htn, hstx, Bool.not_true, hEr, hEx, k1, k2, k3] <;> rfl) (by exact trivial) (fr0) (by simp only [go_sem, hbl, g0, g5, g5b, hrr, hrd, htn, hstx, Bool.not_true, hEr, hEx, k1, k2, k3] <;> rfl) ?_
      refine Run.o1 (by simp only [go_sem, hbl, g0, g5, g5b, hrr, hrd, htn, hstx, Bool.not_true, hEr, hEx, k1, k2, k3] <;> rfl) ?_
      refine Run.o ?_
      refine Run.nil ?_
      refine Exec.retS ?_
      exact Ends.fin [] (rs := [.tmp 6]) rfl (by simp only [go_sem, hbl, g0, g5, g5b, hrr, hrd, htn, hstx, Bool.not_true, hEr, hEx, k1, k2, k3] <;> rfl) (by simp only [go_sem, hbl, g0, g5, g5b, hrr, hrd, htn, hstx, Bool.not_true, hEr, hEx, k1, k2, k3] <;> first | rfl | ((repeat' (first | with_reducible_and_instances rfl | refine st_eq ?_ ?_ ?_ | refine ret_eq ?_ | refine tup_eq ?_ | refine tm_eq ?_ ?_ | refine arr_eq ?_ | refine cells_eq ?_ | refine val_eq ?_ | refine ls_eq ?_ ?_ | refine own_eq ?_ ?_ | refine sl_eq ?_ | refine b_eq ?_ | (refine i_eq ?_; omega))); done))
    have hps : passB s p = false := by simpa using hb118
    obtain ⟨v1, v2⟩ := w3 hps
    have k1 : decide (u.1 ≤ t.1) = true := decide_eq_true v1
    refine Exec.skipS ?_
    refine Exec.reg ?_
    iterate 2 (refine Run.o ?_)
    iterate 2 (refine Run.o1 (by simp only [go_sem, hbl, g0, g5, g5b, hrr, hrd, htn, hstx, Bool.not_true, hEr, hEx, k1, v2] <;> rfl) ?_)
    iterate 2 (refine Run.y1 (by simp only [go_sem] <;> rfl) ?_)
    refine Run.y1 (by simp only [go_sem, hbl, g0, g5, g5b, hrr, hrd, htn, hstx, Bool.not_true, hEr, hEx, k1, v2] <;> rfl) ?_
    iterate 2 (refine Run.o1 (by simp only [go_sem, hbl, g0, g5, g5b, hrr, hrd, htn, hstx, Bool.not_true, hEr, hEx, k1, v2] <;> rfl) ?_)
    refine Run.calw (by simp only [go_sem] <;> rfl) (c_law_awake) (by simp only [go_sem]) (by simp only [go_sem, hbl, g0, g5, g5b, hrr, hrd, htn, hstx, Bool.not_true, hEr, hEx, k1, v2] <;> rfl) (by simp only [go_sem, hbl, g0, g5, g5b, hrr, hrd, htn, hstx, Bool.not_true, hEr, hEx, k1, v2] <;> rfl) (by exact trivial) (fr0) (by simp only [go_sem, hbl, g0, g5, g5b, hrr, hrd, htn, hstx, Bool.not_true, hEr, hEx, k1, v2] <;> rfl) ?_
    refine Run.o1 (by simp only [go_sem, hbl, g0, g5, g5b, hrr, hrd, htn, hstx, Bool.not_true, hEr, hEx, k1, v2] <;> rfl) ?_
    refine Run.o ?_
    refine Run.nil ?_
    exact Ends.fin [] (rs := [.tmp 6]) rfl (by simp only [go_sem, hbl, g0, g5, g5b, hrr, hrd, htn, hstx, Bool.not_true, hEr, hEx, k1, v2] <;> rfl) (by simp only [go_sem, hbl, g0, g5, g5b, hrr, hrd, htn, hstx, Bool.not_true, hEr, hEx, k1, v2] <;> first | rfl | ((repeat' (first | with_reducible_and_instances rfl | refine st_eq ?_ ?_ ?_ | refine ret_eq ?_ | refine tup_eq ?_ | refine tm_eq ?_ ?_ | refine arr_eq ?_ | refine cells_eq ?_ | refine val_eq ?_ | refine ls_eq ?_ ?_ | refine own_eq ?_ ?_ | refine sl_eq ?_ | refine b_eq ?_ | (refine i_eq ?_; omega))); done))
  have g5 : ((endR s x).2.2 != 0) = true := by simpa using he0
  have g5b : ((endR s x).2.2 == 0) = false := by simpa using he0
  have he1 : ¬ (endR (withP s p) x).2.2 = 0 := fun h => he0 (endR_more hdq h)
  have g6 : ((endR (withP s p) x).2.2 != 0) = true := by simpa using he1
  refine Exec.reg ?_
  refine Run.o ?_
  iterate 2 (refine Run.o1 (by simp only [go_sem, hbl, g0, g5, g5b, g6] <;> rfl) ?_)
  iterate 2 (refine Run.s ?_)
  refine Run.o1 (by simp only [go_sem, hbl, g0, g5, g5b, g6] <;> rfl) ?_
  refine Run.nil ?_
  refine Exec.cndS (by simp only [go_sem, hbl, g0, g5, g5b, g6] <;> rfl) (fun hb76 => ?_) (fun hb76 => ?_)
  · skip
    refine Exec.assocS ?_
    refine Exec.reg ?_
    refine Run.o ?_
    iterate 2 (refine Run.o1 (by simp only [go_sem, hbl, g0, g5, g5b, g6] <;> rfl) ?_)
    refine Run.y1 (by simp only [go_sem] <;> rfl) ?_
    refine Run.y1 (by simp only [go_sem, hbl, g0, g5, g5b, g6] <;> rfl) ?_
    iterate 2 (refine Run.o1 (by simp only [go_sem, hbl, g0, g5, g5b, g6] <;> rfl) ?_)
    refine Run.calw (by simp only [go_sem] <;> rfl) (c_law_awake) (by simp only [go_sem]) (by simp only [go_sem, hbl, g0, g5, g5b, g6] <;> rfl) (by simp only [go_sem, hbl, g0, g5, g5b, g6] <;> rfl) (by exact trivial) (fr0) (by simp only [go_sem, hbl, g0, g5, g5b, g6] <;> rfl) ?_
    refine Run.o1 (by simp only [go_sem, hbl, g0, g5, g5b, g6] <;> rfl) ?_
    refine Run.o ?_
    refine Run.nil ?_
    refine Exec.retS ?_
    exact Ends.fin [] (rs := [.tmp 6]) rfl (by simp only [go_sem, hbl, g0, g5, g5b, g6] <;> rfl) (by simp only [go_sem, hbl, g0, g5, g5b, g6] <;> first | rfl | ((repeat' (first | with_reducible_and_instances rfl | refine st_eq ?_ ?_ ?_ | refine ret_eq ?_ | refine tup_eq ?_ | refine tm_eq ?_ ?_ | refine arr_eq ?_ | refine cells_eq ?_ | refine val_eq ?_ | refine ls_eq ?_ ?_ | refine own_eq ?_ ?_ | refine sl_eq ?_ | refine b_eq ?_ | (refine i_eq ?_; omega))); done))
  · exact absurd hb76 (by simp)

end Go.Mw
namespace Go.Proofs.Ytkekecfocnidpaa
open Go.Mw Go.ChangeShapes Go.WideShapes Go.ChangeAt Go.RowKit

theorem own : ownKnob Try.prog.godebug = none := by kernel_rfl
theorem laidOut : laidOutB Try.prog = true := by kernel_rfl
set_option maxRecDepth 100000 in
theorem lifted (os : Os) (started : os.Started) (H : Type) (enc : TypeId × Value → H) :
    ReturnsInHanded {} Try.checked os 7 .any (Rows.termMoreSpec.pre6 enc Try.prog Try.f7 Rows.termMoreRow.domain false) (Rows.termMoreSpec.post enc Try.prog Try.f7 false true false false) := by
  refine returnsInHanded_of_change (C := Try.checked) own started (by kernel_rfl) Try.func7
    (ChangeSpec.witness6 (enc := enc) (C := Try.checked) false ⟨#[], #[.agg #[.slice none 0 0, .slice none 0 0, .slice none 0 0, .slice none 0 0], .agg #[.int .i64 0, .int .i64 0, .slice none 0 0, .int .i64 0], .int .i64 0], []⟩ 8 (by kernel_rfl) (by kernel_rfl) (by kernel_rfl) (by kernel_rfl)) ?_
  intro W base args ds gs before hval0 hW hcnd _
  have hval : ∀ (j : Nat) t v, Try.f7.params[j]? = some t → args[j]? = some v → Value.okWide Try.prog W .any base t v := hval0
  have hW' := hW
  obtain ⟨p, q, hA0, hV, rfl, hfz, hnd⟩ := hW
  have hA : DataW.TrodAll enc Try.prog W 0 (fun _ => true) true Try.f7.params.toList args.toList ds p := hA0
  rw [Try.params7] at hA hval
  obtain ⟨v0, v1, v2, d0, d1, d2, p0, p1, p2, rfl, rfl, rfl, h0, h1, h2⟩ := trodAll_three hA
  obtain ⟨rfl, rfl⟩ := trodVars_none hV
  obtain ⟨x0, hx0⟩ := stk_read (hval 0 27 v0 rfl rfl) h0
  obtain ⟨x1, hx1⟩ := pf_read (hval 1 52 v1 rfl rfl) h1
  obtain ⟨x2, hb2, hx2⟩ := int_read (k := .i64) (P := Try.prog) (by kernel_rfl) (hval 2 3 v2 rfl rfl) h2
  refine (row_con (c_law_TermMore x0 x1 x2) W [v0, v1, v2] ⟨hx0, hx1, hx2, trivial⟩).mono fun e W' ⟨he, hb⟩ => ?_
  exact ⟨_, he, post_below (tb := 4) hW' hb rfl rfl rfl (by kernel_rfl) laidOut (by decide +kernel)⟩
theorem holds : Rows.TermMoreSaid :=
  OpenClaim.holds_of_wide 7 Try.f7 rfl rfl rfl rfl rfl rfl rfl ⟨rfl, rfl, rfl, rfl, rfl⟩ rfl rfl rfl rfl rfl (by kernel_rfl) Try.func7 (by kernel_rfl)
    (of_decide_eq_true (by kernel_rfl)) (by unfold Func.isWrapper; first | (rw [if_pos (by decide +kernel)]; kernel_rfl) | (rw [if_neg (by decide +kernel)]; exact ⟨rfl, rfl⟩))
    (fun os started H enc _ => lifted os started H enc)
end Go.Proofs.Ytkekecfocnidpaa
#print axioms Go.Proofs.Ytkekecfocnidpaa.holds

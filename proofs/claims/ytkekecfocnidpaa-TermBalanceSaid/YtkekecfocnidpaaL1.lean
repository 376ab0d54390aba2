/- The statement about the term: seals from one day to the next. -/
import Derived.Test.YtkekecfocnidpaaB10
import Derived.Test.YtkekecfocnidpaaB4
import Derived.Test.YtkekecfocnidpaaRows
set_option linter.unusedSimpArgs false
set_option linter.unusedVariables false
set_option linter.unusedSectionVars false
set_option linter.deprecated false
namespace Go.Mw
open Go.Proofs
open Go.Te
attribute [local go_sem] decide_true beq_self_eq_true bne_self_eq_false
theorem sumN_R (s : Stk) : ∀ k, sumN s k = sumR k (szR s)
  | 0 => rfl
  | k + 1 => by rw [sumN, sumR, sumN_R s k]; unfold szR; omega
theorem cntR_err {s : Stk} {d : Int} (h : (countR s d).2 ≠ 0) : (countR s d).1 = [] := by
  unfold countR at h ⊢
  split
  · split
    · rfl
    · rename_i h1 h2
      rw [if_pos h1, if_neg h2] at h
      exact absurd rfl h
  · rfl
theorem cntR_ok {s : Stk} {d : Int} (h : (countR s d).2 = 0) : (termsR s).2.2 = 0 ∧ 0 ≤ d ∧ d ≤ 131072 := by
  unfold countR at h
  split at h
  · rename_i h1
    split at h
    · exact absurd h (by decide)
    · rename_i h2
      exact ⟨h1, inB_iff.1 (by simpa using h2)⟩
  · rename_i h1
    exact absurd h h1
theorem cntR_sum {s : Stk} {d : Int} (h : (termsR s).2.2 = 0) (hd : 0 ≤ d ∧ d ≤ 131072) : countR s d = ([sumR s.rs.length (stR s (termsR s).1 d 0), sumR s.rs.length (stR s (termsR s).1 d 1), sumR s.rs.length (stR s (termsR s).1 d 2), sumR s.rs.length (bkR s d)], 0) := by
  unfold countR
  rw [if_pos h, if_neg (by rw [inB_iff.2 hd]; decide), cnt_sum]
theorem dueR_ok {s : Stk} {lo hi : Int} (h : (termsR s).2.2 = 0) (hd : 0 ≤ lo ∧ lo ≤ hi ∧ hi ≤ 131072) : dueR s lo hi = (dueTo s (termsR s).1 lo hi s.rs.length, 0) := by
  unfold dueR
  rw [if_pos h, if_neg]
  unfold dueErr
  simp only [Bool.or_eq_true, decide_eq_true_eq]
  omega
theorem sum_bnd' {B : Int} : ∀ {l : List Int}, (∀ x ∈ l, -B ≤ x ∧ x ≤ B) → -(B * l.length) ≤ l.sum ∧ l.sum ≤ B * l.length
  | [], _ => by simp
  | a :: l, h => by
    have ih := sum_bnd' (l := l) fun x hx => h x (List.mem_cons_of_mem _ hx)
    have ha := h a List.mem_cons_self
    have e : B * ((a :: l).length : Int) = B * (l.length : Int) + B := by rw [List.length_cons, Int.natCast_add, Int.mul_add]; omega
    rw [e, List.sum_cons]
    omega
theorem sz_bnd {s : Stk} (v : Val s) {i : Nat} (hi : i < s.rs.length) : 1 ≤ szR s i ∧ szR s i ≤ 1000000 := by
  have := v.row _ (rowOf_mem hi)
  unfold szR; omega
theorem sumR_bnd {f : Nat → Int} {B : Int} : ∀ {n : Nat}, (∀ i, i < n → 0 ≤ f i ∧ f i ≤ B) → 0 ≤ sumR n f ∧ sumR n f ≤ B * n
  | 0, _ => by simp [sumR]
  | n + 1, h => by
    have ih := sumR_bnd (f := f) (B := B) (n := n) fun i hi => h i (by omega)
    have hn := h n (by omega)
    have e : B * ((n + 1 : Nat) : Int) = B * (n : Int) + B := by rw [Int.natCast_add, Int.mul_add]; omega
    rw [e, sumR]
    omega
theorem put_bnd {s : Stk} (v : Val s) (d : Int) {i : Nat} (hi : i < s.rs.length) : 0 ≤ putR s d i ∧ putR s d i ≤ 1000000 := by
  have := sz_bnd v hi
  unfold putR
  split <;> omega
theorem take_countP {l : List Br} {k : Nat} {b : Br} (q : Br → Bool) (h : l[k]? = some b) : (((l.take (k + 1)).countP q : Nat) : Int) = ((l.take k).countP q : Nat) + (if q b = true then 1 else 0) := by
  rw [snoc_take h, List.countP_append, List.countP_cons, List.countP_nil]
  split <;> simp
theorem take_sum {l : List Int} {k : Nat} {x : Int} (h : l[k]? = some x) : (l.take (k + 1)).sum = (l.take k).sum + x := by
  rw [snoc_take h, List.sum_append, List.sum_cons, List.sum_nil]; omega
set_option maxRecDepth 60000 in
set_option maxHeartbeats 64000000 in
/-- meterworks/meterworkslaw07.TermBalance -/
theorem c_law_TermBalance (s : Stk) (d : Int) : Contract Try.prog 4 [stkV s, .int d] (.bool true) [] := by
  refine con_of follows_mixed Try.func4 rfl (by simp only [List.length_cons, List.length_nil, Try.ntmps4]; omega) (by kernel_rfl) rfl ?_
  refine Exec.reg ?_
  iterate 2 (refine Run.o ?_)
  refine Run.nil ?_
  refine Exec.assocS ?_
  refine Exec.reg ?_
  refine Run.o ?_
  refine Run.c1 (c_law_large s 1099511627776 (by decide)) (by simp only [go_sem] <;> rfl) (by simp only [go_sem] <;> rfl) ?_
  refine Run.nil ?_
  refine Exec.cndS (by simp only [go_sem] <;> rfl) (fun hb22 => ?_) (fun hb22 => ?_)
  · skip
    refine Exec.assocS ?_
    refine Exec.reg ?_
    refine Run.c1 (c_law_awake) (by simp only [go_sem] <;> rfl) (by simp only [go_sem] <;> rfl) ?_
    refine Run.o ?_
    refine Run.nil ?_
    refine Exec.retS ?_
    exact Ends.fin [] (rs := [.tmp 4]) rfl (by simp only [go_sem] <;> rfl) (by simp only [go_sem] <;> first | rfl | ((repeat' (first | with_reducible_and_instances rfl | refine st_eq ?_ ?_ ?_ | refine ret_eq ?_ | refine tup_eq ?_ | refine tm_eq ?_ ?_ | refine arr_eq ?_ | refine cells_eq ?_ | refine val_eq ?_ | refine ls_eq ?_ ?_ | refine own_eq ?_ ?_ | refine sl_eq ?_ | refine b_eq ?_ | (refine i_eq ?_; omega))); done))
  have hbl : largeB s 1099511627776 = false := by simpa using hb22
  obtain ⟨hsm, _⟩ := large_small hbl
  refine Exec.skipS ?_
  refine Exec.reg ?_
  iterate 2 (refine Run.o ?_)
  refine Run.c1 (c_cnt s hsm d) (by simp only [go_sem] <;> rfl) (by simp only [go_sem] <;> rfl) ?_
  iterate 5 (refine Run.o ?_)
  refine Run.nil ?_
  refine Exec.assocS ?_
  refine Exec.reg ?_
  iterate 2 (refine Run.o ?_)
  refine Run.nil ?_
  refine Exec.cndS (by simp only [go_sem] <;> rfl) (fun hb31 => ?_) (fun hb31 => ?_)
  · skip
    have h1 : (countR s d).2 ≠ 0 := by simpa using hb31
    have h2 := cntR_err h1
    refine Exec.assocS ?_
    refine Exec.reg ?_
    refine Run.o ?_
    iterate 3 (refine Run.o1 (by simp only [go_sem, h2] <;> rfl) ?_)
    refine Run.calw (by simp only [go_sem] <;> rfl) (c_law_awake) (by simp only [go_sem]) (by simp only [go_sem, h2] <;> rfl) (by simp only [go_sem, h2] <;> rfl) (by exact trivial) (fr0) (by simp only [go_sem, h2] <;> rfl) ?_
    refine Run.o1 (by simp only [go_sem, h2] <;> rfl) ?_
    refine Run.o ?_
    refine Run.nil ?_
    refine Exec.retS ?_
    exact Ends.fin [] (rs := [.tmp 4]) rfl (by simp only [go_sem, h2] <;> rfl) (by simp only [go_sem, h2] <;> first | rfl | ((repeat' (first | with_reducible_and_instances rfl | refine st_eq ?_ ?_ ?_ | refine ret_eq ?_ | refine tup_eq ?_ | refine tm_eq ?_ ?_ | refine arr_eq ?_ | refine cells_eq ?_ | refine val_eq ?_ | refine ls_eq ?_ ?_ | refine own_eq ?_ ?_ | refine sl_eq ?_ | refine b_eq ?_ | (refine i_eq ?_; omega))); done))
  have h1 : (countR s d).2 = 0 := by simpa using hb31
  obtain ⟨hok, hd⟩ := cntR_ok h1
  have hC := cntR_sum hok hd
  have g := good_of hok
  have v := g.v
  have hrl := v.nrs
  have hbl2 := v.nbs
  have hst := (terms_zero hok).1
  obtain ⟨bal1, bal2, bal3⟩ := balance hok d
  have hall := all_stand s (termsR s).1 d s.rs.length
  rw [← sumN_R] at hall
  have hAb := sumN_bnd v s.rs.length (Nat.le_refl _)
  have b0 := sumR_nonneg (n := s.rs.length) fun i hi => (stR_bnd g (termsR s).1 d 0 hi).1
  have b1 := sumR_nonneg (n := s.rs.length) fun i hi => (stR_bnd g (termsR s).1 d 1 hi).1
  have b2 := sumR_nonneg (n := s.rs.length) fun i hi => (stR_bnd g (termsR s).1 d 2 hi).1
  have b3 := sumR_nonneg (n := s.rs.length) fun i hi => (bkR_bnd g d hi).1
  have hP : 0 ≤ sumR s.rs.length (putR s (d + 1)) ∧ sumR s.rs.length (putR s (d + 1)) ≤ 1000000 * (s.rs.length : Int) := sumR_bnd (n := s.rs.length) fun i hi => put_bnd v (d + 1) hi
  have hK : s.bs.countP (brq s (d + 1)) ≤ s.bs.length := List.countP_le_length
  have hO : s.bs.countP (opq (d + 1)) ≤ s.bs.length := List.countP_le_length
  have hds := due_sum v (termsR s).1 (d + 1) (d + 1) s.rs.length (Nat.le_refl _)
  have hdl := dueTo_len' s (termsR s).1 (d + 1) (d + 1) s.rs.length
  have hdb := dueTo_bnd v (termsR s).1 (d + 1) (d + 1) s.rs.length (Nat.le_refl _)
  have hcl := v.ncs
  rw [← hds] at bal1
  generalize sumR s.rs.length (stR s (termsR s).1 d 0) = a0 at *
  generalize sumR s.rs.length (stR s (termsR s).1 d 1) = a1 at *
  generalize sumR s.rs.length (stR s (termsR s).1 d 2) = a2 at *
  generalize sumR s.rs.length (bkR s d) = a3 at *
  obtain ⟨dl, hdle⟩ : ∃ l, dueTo s (termsR s).1 (d + 1) (d + 1) s.rs.length = l := ⟨_, rfl⟩
  rw [hdle] at hdl hdb bal1
  have g0 : decide (a0 < 0) = false := decide_eq_false (by omega)
  have g1 : decide (a1 < 0) = false := decide_eq_false (by omega)
  have g2 : decide (a2 < 0) = false := decide_eq_false (by omega)
  have g3 : decide (a3 < 0) = false := decide_eq_false (by omega)
  refine Exec.skipS ?_
  refine Exec.assocS ?_
  refine Exec.opk 54 ?_
  refine OpenK.o ?_
  iterate 3 (refine OpenK.o1 (by simp only [go_sem, hC, hst, hall, g0, g1, g2, g3, Bool.not_true] <;> rfl) ?_)
  refine OpenK.y1 (by simp only [go_sem, hC, hst, hall, g0, g1, g2, g3, Bool.not_true] <;> rfl) ?_
  refine OpenK.calw (by simp only [go_sem] <;> rfl) (c_meterworksref07_Stock s hsm) (by simp only [go_sem]) (by simp only [go_sem, hC, hst, hall, g0, g1, g2, g3, Bool.not_true] <;> rfl) (by simp only [go_sem, hC, hst, hall, g0, g1, g2, g3, Bool.not_true] <;> rfl) (by exact ⟨by first | exact WkR.pure rfl | exact WkR.nil _ | exact WkR.int (by first | omega | (simp; done) | (simp; omega)), trivial⟩) (fr0) (by simp only [go_sem, hC, hst, hall, g0, g1, g2, g3, Bool.not_true] <;> rfl) (by simp only [go_sem] <;> rfl) (by simp only [go_sem] <;> rfl) ?_
  refine OpenK.y1 (by simp only [go_sem, hC, hst, hall, g0, g1, g2, g3, Bool.not_true] <;> rfl) ?_
  iterate 2 (refine OpenK.o1 (by simp only [go_sem, hC, hst, hall, g0, g1, g2, g3, Bool.not_true] <;> rfl) ?_)
  refine OpenK.y1 (by simp only [go_sem] <;> rfl) ?_
  refine OpenK.y1 (by simp only [go_sem, hC, hst, hall, g0, g1, g2, g3, Bool.not_true]; (try simp (disch := omega) only [if_pos]); (try simp only [go_sem, hC, hst, hall, g0, g1, g2, g3, Bool.not_true])<;> rfl) ?_
  refine OpenK.y1 (by simp only [go_sem, hC, hst, hall, g0, g1, g2, g3, Bool.not_true] <;> rfl) ?_
  refine OpenK.y1 (by simp only [go_sem] <;> rfl) ?_
  refine OpenK.y1 (by simp only [go_sem, hC, hst, hall, g0, g1, g2, g3, Bool.not_true]; (try simp (disch := omega) only [if_pos]); (try simp only [go_sem, hC, hst, hall, g0, g1, g2, g3, Bool.not_true])<;> rfl) ?_
  refine OpenK.y1 (by simp only [go_sem, hC, hst, hall, g0, g1, g2, g3, Bool.not_true] <;> rfl) ?_
  refine OpenK.y1 (by simp only [go_sem, hC, hst, hall, g0, g1, g2, g3, Bool.not_true]; (try simp (disch := omega) only [IntWalk.i64_in, IntWalk.u64_in, if_neg, if_pos])<;> rfl) ?_
  refine OpenK.y1 (by simp only [go_sem] <;> rfl) ?_
  refine OpenK.y1 (by simp only [go_sem, hC, hst, hall, g0, g1, g2, g3, Bool.not_true]; (try simp (disch := omega) only [if_pos]); (try simp only [go_sem, hC, hst, hall, g0, g1, g2, g3, Bool.not_true])<;> rfl) ?_
  refine OpenK.y1 (by simp only [go_sem, hC, hst, hall, g0, g1, g2, g3, Bool.not_true] <;> rfl) ?_
  refine OpenK.y1 (by simp only [go_sem, hC, hst, hall, g0, g1, g2, g3, Bool.not_true]; (try simp (disch := omega) only [IntWalk.i64_in, IntWalk.u64_in, if_neg, if_pos])<;> rfl) ?_
  refine OpenK.y1 (by simp only [go_sem] <;> rfl) ?_
  refine OpenK.y1 (by simp only [go_sem, hC, hst, hall, g0, g1, g2, g3, Bool.not_true]; (try simp (disch := omega) only [if_pos]); (try simp only [go_sem, hC, hst, hall, g0, g1, g2, g3, Bool.not_true])<;> rfl) ?_
  refine OpenK.y1 (by simp only [go_sem, hC, hst, hall, g0, g1, g2, g3, Bool.not_true] <;> rfl) ?_
  refine OpenK.y1 (by simp only [go_sem, hC, hst, hall, g0, g1, g2, g3, Bool.not_true]; (try simp (disch := omega) only [IntWalk.i64_in, IntWalk.u64_in, if_neg, if_pos])<;> rfl) ?_
  refine OpenK.y1 (by simp only [go_sem, hC, hst, hall, g0, g1, g2, g3, Bool.not_true] <;> rfl) ?_
  refine OpenK.calw (by simp only [go_sem] <;> rfl) (c_law_all s v) (by simp only [go_sem]) (by simp only [go_sem, hC, hst, hall, g0, g1, g2, g3, Bool.not_true] <;> rfl) (by simp only [go_sem, hC, hst, hall, g0, g1, g2, g3, Bool.not_true] <;> rfl) (by exact ⟨by first | exact WkR.pure rfl | exact WkR.nil _ | exact WkR.int (by first | omega | (simp; done) | (simp; omega)), trivial⟩) (fr0) (by simp only [go_sem, hC, hst, hall, g0, g1, g2, g3, Bool.not_true] <;> rfl) (by simp only [go_sem] <;> rfl) (by simp only [go_sem] <;> rfl) ?_
  refine OpenK.y1 (by simp only [go_sem, hC, hst, hall, g0, g1, g2, g3, Bool.not_true] <;> rfl) ?_
  iterate 2 (refine OpenK.o1 (by simp only [go_sem, hC, hst, hall, g0, g1, g2, g3, Bool.not_true] <;> rfl) ?_)
  refine OpenK.y1 (by simp only [go_sem] <;> rfl) ?_
  refine OpenK.y1 (by simp only [go_sem, hC, hst, hall, g0, g1, g2, g3, Bool.not_true]; (try simp (disch := omega) only [if_pos]); (try simp only [go_sem, hC, hst, hall, g0, g1, g2, g3, Bool.not_true])<;> rfl) ?_
  iterate 2 (refine OpenK.y1 (by simp only [go_sem, hC, hst, hall, g0, g1, g2, g3, Bool.not_true] <;> rfl) ?_)
  iterate 2 (refine OpenK.o1 (by simp only [go_sem, hC, hst, hall, g0, g1, g2, g3, Bool.not_true] <;> rfl) ?_)
  refine OpenK.y1 (by simp only [go_sem] <;> rfl) ?_
  refine OpenK.y1 (by simp only [go_sem, hC, hst, hall, g0, g1, g2, g3, Bool.not_true]; (try simp (disch := omega) only [if_pos]); (try simp only [go_sem, hC, hst, hall, g0, g1, g2, g3, Bool.not_true])<;> rfl) ?_
  iterate 2 (refine OpenK.y1 (by simp only [go_sem, hC, hst, hall, g0, g1, g2, g3, Bool.not_true] <;> rfl) ?_)
  iterate 2 (refine OpenK.o1 (by simp only [go_sem, hC, hst, hall, g0, g1, g2, g3, Bool.not_true] <;> rfl) ?_)
  refine OpenK.y1 (by simp only [go_sem] <;> rfl) ?_
  refine OpenK.y1 (by simp only [go_sem, hC, hst, hall, g0, g1, g2, g3, Bool.not_true]; (try simp (disch := omega) only [if_pos]); (try simp only [go_sem, hC, hst, hall, g0, g1, g2, g3, Bool.not_true])<;> rfl) ?_
  iterate 2 (refine OpenK.y1 (by simp only [go_sem, hC, hst, hall, g0, g1, g2, g3, Bool.not_true] <;> rfl) ?_)
  iterate 2 (refine OpenK.o1 (by simp only [go_sem, hC, hst, hall, g0, g1, g2, g3, Bool.not_true] <;> rfl) ?_)
  refine OpenK.y1 (by simp only [go_sem] <;> rfl) ?_
  refine OpenK.y1 (by simp only [go_sem, hC, hst, hall, g0, g1, g2, g3, Bool.not_true]; (try simp (disch := omega) only [if_pos]); (try simp only [go_sem, hC, hst, hall, g0, g1, g2, g3, Bool.not_true])<;> rfl) ?_
  iterate 2 (refine OpenK.y1 (by simp only [go_sem, hC, hst, hall, g0, g1, g2, g3, Bool.not_true] <;> rfl) ?_)
  refine OpenK.o1 (by simp only [go_sem, hC, hst, hall, g0, g1, g2, g3, Bool.not_true] <;> rfl) ?_
  refine OpenK.nil (OpenE.finT (by kernel_rfl) (by kernel_rfl) (by kernel_rfl) ?_)
  refine Exec.cndS (by simp only [go_sem, hC, hst, hall, g0, g1, g2, g3, Bool.not_true] <;> rfl) (fun hb89 => ?_) (fun hb89 => ?_)
  · exact absurd hb89 (by simp)
  refine Exec.skipS ?_
  refine Exec.reg ?_
  refine Run.o1 (by simp only [go_sem, hC, hst, hall, g0, g1, g2, g3, Bool.not_true] <;> rfl) ?_
  refine Run.o ?_
  refine Run.o1 (by simp only [go_sem, hC, hst, hall, g0, g1, g2, g3, Bool.not_true]; (try simp (disch := omega) only [IntWalk.i64_in, IntWalk.u64_in, if_neg, if_pos])<;> rfl) ?_
  refine Run.c1 (c_cnt s hsm (d + 1)) (by simp only [go_sem, hC, hst, hall, g0, g1, g2, g3, Bool.not_true] <;> rfl) (by simp only [go_sem, hC, hst, hall, g0, g1, g2, g3, Bool.not_true] <;> rfl) ?_
  refine Run.o ?_
  iterate 2 (refine Run.o1 (by simp only [go_sem, hC, hst, hall, g0, g1, g2, g3, Bool.not_true] <;> rfl) ?_)
  iterate 2 (refine Run.o ?_)
  refine Run.nil ?_
  refine Exec.assocS ?_
  refine Exec.reg ?_
  refine Run.o ?_
  refine Run.o1 (by simp only [go_sem, hC, hst, hall, g0, g1, g2, g3, Bool.not_true] <;> rfl) ?_
  refine Run.nil ?_
  refine Exec.cndS (by simp only [go_sem, hC, hst, hall, g0, g1, g2, g3, Bool.not_true] <;> rfl) (fun hb98 => ?_) (fun hb98 => ?_)
  · skip
    have h2 : (countR s (d + 1)).2 ≠ 0 := by simpa using hb98
    have hde : (d == 131072) = true := by
      rw [beq_iff_eq]
      have : ¬ d + 1 ≤ 131072 := fun hh => h2 (by rw [cntR_sum hok (by omega)])
      omega
    refine Exec.assocS ?_
    refine Exec.reg ?_
    refine Run.o ?_
    iterate 2 (refine Run.o1 (by simp only [go_sem, hC, hst, hall, g0, g1, g2, g3, Bool.not_true, hde] <;> rfl) ?_)
    refine Run.calw (by simp only [go_sem] <;> rfl) (c_law_awake) (by simp only [go_sem]) (by simp only [go_sem, hC, hst, hall, g0, g1, g2, g3, Bool.not_true, hde] <;> rfl) (by simp only [go_sem, hC, hst, hall, g0, g1, g2, g3, Bool.not_true, hde] <;> rfl) (by exact trivial) (fr0) (by simp only [go_sem, hC, hst, hall, g0, g1, g2, g3, Bool.not_true, hde] <;> rfl) ?_
    refine Run.o1 (by simp only [go_sem, hC, hst, hall, g0, g1, g2, g3, Bool.not_true, hde] <;> rfl) ?_
    refine Run.o ?_
    refine Run.nil ?_
    refine Exec.retS ?_
    exact Ends.fin [] (rs := [.tmp 4]) rfl (by simp only [go_sem, hC, hst, hall, g0, g1, g2, g3, Bool.not_true, hde] <;> rfl) (by simp only [go_sem, hC, hst, hall, g0, g1, g2, g3, Bool.not_true, hde] <;> first | rfl | ((repeat' (first | with_reducible_and_instances rfl | refine st_eq ?_ ?_ ?_ | refine ret_eq ?_ | refine tup_eq ?_ | refine tm_eq ?_ ?_ | refine arr_eq ?_ | refine cells_eq ?_ | refine val_eq ?_ | refine ls_eq ?_ ?_ | refine own_eq ?_ ?_ | refine sl_eq ?_ | refine b_eq ?_ | (refine i_eq ?_; omega))); done))
  have h2 : (countR s (d + 1)).2 = 0 := by simpa using hb98
  obtain ⟨_, hd1⟩ := cntR_ok h2
  have hC2 := cntR_sum hok hd1
  rw [bal1, bal2, bal3] at hC2
  have hD := dueR_ok hok (lo := d + 1) (hi := d + 1) (by omega)
  rw [hdle] at hD
  obtain ⟨e2, he2⟩ : ∃ x, sumR s.rs.length (stR s (termsR s).1 (d + 1) 2) = x := ⟨_, rfl⟩
  rw [he2] at hC2
  refine Exec.skipS ?_
  refine Exec.reg ?_
  refine Run.o ?_
  refine Run.nil ?_
  refine Exec.assocS ?_
  refine Exec.reg ?_
  refine Run.o ?_
  refine Run.nil ?_
  refine Exec.blk ?_
  refine Exec.forA [1, 2, 5, 7, 9, 10] [2] (s.rs.length) (fun k => [.slot 10 (.int k), .slot 9 (.int (sumR k (putR s (d + 1))))]) (fun _ => True) (fun k => by simp only [go_sem] <;> rfl) (by simp only [go_sem, hC, hst, hall, g0, g1, g2, g3, Bool.not_true, hC2, hD, sumR, Int.natCast_zero] <;> rfl) ?_ (fun k hk hX => ?_)
  · trivial
  refine Exec.assocS ?_
  refine Exec.reg ?_
  iterate 2 (refine Run.o ?_)
  iterate 3 (refine Run.o1 (by simp only [go_sem, hC, hst, hall, g0, g1, g2, g3, Bool.not_true, hC2, hD] <;> rfl) ?_)
  refine Run.nil ?_
  refine Exec.cndS (by simp only [go_sem, hC, hst, hall, g0, g1, g2, g3, Bool.not_true, hC2, hD] <;> rfl) (fun hb108 => ?_) (fun hb108 => ?_)
  · skip
    have hlt := lt_of_dec hb108
    have hrk := rowOf_get hlt
    have hrv := v.row _ (rowOf_mem hlt)
    have hsb : 0 ≤ sumR k (putR s (d + 1)) ∧ sumR k (putR s (d + 1)) ≤ 1000000 * (k : Int) := sumR_bnd (n := k) fun i hi => put_bnd v (d + 1) (i := i) (by omega)
    refine Exec.skipS ?_
    refine Exec.blk ?_
    refine Exec.reg ?_
    refine Run.o ?_
    refine Run.o1 (by simp only [go_sem, hC, hst, hall, g0, g1, g2, g3, Bool.not_true, hC2, hD, hrk] <;> rfl) ?_
    refine Run.o ?_
    refine Run.o1 (by simp only [go_sem, hC, hst, hall, g0, g1, g2, g3, Bool.not_true, hC2, hD, hrk]; (try simp (disch := omega) only [if_pos]); (try simp only [go_sem, hC, hst, hall, g0, g1, g2, g3, Bool.not_true, hC2, hD, hrk])<;> rfl) ?_
    refine Run.o ?_
    refine Run.o1 (by simp only [go_sem, hC, hst, hall, g0, g1, g2, g3, Bool.not_true, hC2, hD, hrk] <;> rfl) ?_
    refine Run.o ?_
    refine Run.o1 (by simp only [go_sem, hC, hst, hall, g0, g1, g2, g3, Bool.not_true, hC2, hD, hrk]; (try simp (disch := omega) only [IntWalk.i64_in, IntWalk.u64_in, if_neg, if_pos])<;> rfl) ?_
    refine Run.o1 (by simp only [go_sem, hC, hst, hall, g0, g1, g2, g3, Bool.not_true, hC2, hD, hrk] <;> rfl) ?_
    refine Run.nil ?_
    refine Exec.cnd (by simp only [go_sem, hC, hst, hall, g0, g1, g2, g3, Bool.not_true, hC2, hD, hrk] <;> rfl) (fun hb119 => ?_) (fun hb119 => ?_)
    · skip
      have hp : putR s (d + 1) k = (rowOf s k).to - (rowOf s k).fr + 1 := if_pos (by simpa using hb119)
      have hsn : sumR (k + 1) (putR s (d + 1)) = sumR k (putR s (d + 1)) + (rowOf s k).to - (rowOf s k).fr + 1 := by rw [sumR, hp]; omega
      refine Exec.opk1 19 ?_
      iterate 2 (refine OpenK.o ?_)
      refine OpenK.o1 (by simp only [go_sem, hC, hst, hall, g0, g1, g2, g3, Bool.not_true, hC2, hD, hrk, hsn] <;> rfl) ?_
      refine OpenK.o ?_
      refine OpenK.o1 (by simp only [go_sem, hC, hst, hall, g0, g1, g2, g3, Bool.not_true, hC2, hD, hrk, hsn]; (try simp (disch := omega) only [if_pos]); (try simp only [go_sem, hC, hst, hall, g0, g1, g2, g3, Bool.not_true, hC2, hD, hrk, hsn])<;> rfl) ?_
      refine OpenK.o ?_
      refine OpenK.o1 (by simp only [go_sem, hC, hst, hall, g0, g1, g2, g3, Bool.not_true, hC2, hD, hrk, hsn] <;> rfl) ?_
      refine OpenK.o1 (by simp only [go_sem, hC, hst, hall, g0, g1, g2, g3, Bool.not_true, hC2, hD, hrk, hsn]; (try simp (disch := omega) only [IntWalk.i64_in, IntWalk.u64_in, if_neg, if_pos])<;> rfl) ?_
      refine OpenK.o ?_
      refine OpenK.o1 (by simp only [go_sem, hC, hst, hall, g0, g1, g2, g3, Bool.not_true, hC2, hD, hrk, hsn] <;> rfl) ?_
      refine OpenK.o ?_
      refine OpenK.o1 (by simp only [go_sem, hC, hst, hall, g0, g1, g2, g3, Bool.not_true, hC2, hD, hrk, hsn]; (try simp (disch := omega) only [if_pos]); (try simp only [go_sem, hC, hst, hall, g0, g1, g2, g3, Bool.not_true, hC2, hD, hrk, hsn])<;> rfl) ?_
      refine OpenK.o ?_
      refine OpenK.o1 (by simp only [go_sem, hC, hst, hall, g0, g1, g2, g3, Bool.not_true, hC2, hD, hrk, hsn] <;> rfl) ?_
      iterate 2 (refine OpenK.o1 (by simp only [go_sem, hC, hst, hall, g0, g1, g2, g3, Bool.not_true, hC2, hD, hrk, hsn]; (try simp (disch := omega) only [IntWalk.i64_in, IntWalk.u64_in, if_neg, if_pos])<;> rfl) ?_)
      refine OpenK.o ?_
      refine OpenK.nil (OpenE.finT (by kernel_rfl) (by kernel_rfl) (by kernel_rfl) ?_)
      refine BlkK.nrm ?_
      refine Exec.reg1 ?_
      refine Run.o ?_
      refine Run.o1 (by simp only [go_sem, hC, hst, hall, g0, g1, g2, g3, Bool.not_true, hC2, hD, hrk, hsn]; (try simp (disch := omega) only [IntWalk.i64_in, IntWalk.u64_in, if_neg, if_pos])<;> rfl) ?_
      refine Run.o ?_
      refine Run.nil ?_
      refine ForK.nxt ?_ ?_ ?_
      · omega
      · exact Ghost.kp [1, 2, 5, 7, 9, 10] [2] (by simp only [go_sem, hC, hst, hall, g0, g1, g2, g3, Bool.not_true, hC2, hD, hrk, hsn]; first | ((repeat' (first | with_reducible_and_instances rfl | refine st_eq ?_ ?_ ?_ | refine ret_eq ?_ | refine tup_eq ?_ | refine tm_eq ?_ ?_ | refine arr_eq ?_ | refine cells_eq ?_ | refine val_eq ?_ | refine ls_eq ?_ ?_ | refine own_eq ?_ ?_ | refine sl_eq ?_ | refine b_eq ?_ | (refine i_eq ?_; omega))); done) | rfl)
      · trivial
    have hp : putR s (d + 1) k = 0 := if_neg (by simpa using hb119)
    have hsn : sumR (k + 1) (putR s (d + 1)) = sumR k (putR s (d + 1)) := by rw [sumR, hp]; omega
    refine BlkK.nrm ?_
    refine Exec.reg1 ?_
    refine Run.o ?_
    refine Run.o1 (by simp only [go_sem, hC, hst, hall, g0, g1, g2, g3, Bool.not_true, hC2, hD, hrk, hsn]; (try simp (disch := omega) only [IntWalk.i64_in, IntWalk.u64_in, if_neg, if_pos])<;> rfl) ?_
    refine Run.o ?_
    refine Run.nil ?_
    refine ForK.nxt ?_ ?_ ?_
    · omega
    · exact Ghost.kp [1, 2, 5, 7, 9, 10] [2] (by simp only [go_sem, hC, hst, hall, g0, g1, g2, g3, Bool.not_true, hC2, hD, hrk, hsn]; first | ((repeat' (first | with_reducible_and_instances rfl | refine st_eq ?_ ?_ ?_ | refine ret_eq ?_ | refine tup_eq ?_ | refine tm_eq ?_ ?_ | refine arr_eq ?_ | refine cells_eq ?_ | refine val_eq ?_ | refine ls_eq ?_ ?_ | refine own_eq ?_ ?_ | refine sl_eq ?_ | refine b_eq ?_ | (refine i_eq ?_; omega))); done) | rfl)
    · trivial
  have hke : k = s.rs.length := by have := ge_of_dec hb108; omega
  subst hke
  refine Exec.exitS ?_
  refine ForK.ext ?_
  refine BlkK.hit ?_
  refine Exec.reg ?_
  iterate 2 (refine Run.o ?_)
  refine Run.nil ?_
  refine Exec.assocS ?_
  refine Exec.reg ?_
  refine Run.o ?_
  refine Run.nil ?_
  refine Exec.blk ?_
  refine Exec.forA [1, 2, 5, 7, 9, 11, 12, 13] [2] (s.bs.length) (fun j => [.slot 13 (.int j), .slot 11 (.int (((s.bs.take j).countP (brq s (d + 1)) : Nat) : Int)), .slot 12 (.int (((s.bs.take j).countP (opq (d + 1)) : Nat) : Int))]) (fun _ => True) (fun j => by simp only [go_sem] <;> rfl) (by simp only [go_sem, hC, hst, hall, g0, g1, g2, g3, Bool.not_true, hC2, hD, List.take_zero, List.countP_nil, Int.natCast_zero] <;> rfl) ?_ (fun j hj Xj => ?_)
  · trivial
  refine Exec.assocS ?_
  refine Exec.reg ?_
  iterate 2 (refine Run.o ?_)
  iterate 3 (refine Run.o1 (by simp only [go_sem, hC, hst, hall, g0, g1, g2, g3, Bool.not_true, hC2, hD] <;> rfl) ?_)
  refine Run.nil ?_
  refine Exec.cndS (by simp only [go_sem, hC, hst, hall, g0, g1, g2, g3, Bool.not_true, hC2, hD] <;> rfl) (fun hb140 => ?_) (fun hb140 => ?_)
  · skip
    have hlt := lt_of_dec hb140
    obtain ⟨b, hb⟩ : ∃ b, s.bs[j]? = some b := ⟨_, List.getElem?_eq_getElem hlt⟩
    have hK2 := take_countP (brq s (d + 1)) hb
    have hO2 := take_countP (opq (d + 1)) hb
    have hKj : (s.bs.take j).countP (brq s (d + 1)) ≤ (s.bs.take j).length := List.countP_le_length
    have hOj : (s.bs.take j).countP (opq (d + 1)) ≤ (s.bs.take j).length := List.countP_le_length
    rw [List.length_take] at hKj hOj
    obtain ⟨ri, hri, _⟩ := g.brk b (List.mem_of_getElem? hb)
    have hE := c_term_End s hsm b.no
    have hEr := endR_at hok hri
    have hEb := (endAt (termsR s).1 ri).2
    obtain ⟨ee, hee⟩ : ∃ x, (endAt (termsR s).1 ri).1 = x := ⟨_, rfl⟩
    obtain ⟨et, het⟩ : ∃ x, (endAt (termsR s).1 ri).2 = x := ⟨_, rfl⟩
    rw [hee, het] at hEr
    unfold endV at hE
    rw [hEr] at hE
    refine Exec.skipS ?_
    refine Exec.blk ?_
    refine Exec.assocS ?_
    refine Exec.reg ?_
    refine Run.o ?_
    refine Run.o1 (by simp only [go_sem, hC, hst, hall, g0, g1, g2, g3, Bool.not_true, hC2, hD, hb] <;> rfl) ?_
    refine Run.o ?_
    iterate 2 (refine Run.o1 (by simp only [go_sem, hC, hst, hall, g0, g1, g2, g3, Bool.not_true, hC2, hD, hb]; (try simp (disch := omega) only [if_pos]); (try simp only [go_sem, hC, hst, hall, g0, g1, g2, g3, Bool.not_true, hC2, hD, hb])<;> rfl) ?_)
    refine Run.o1 (by simp only [go_sem, hC, hst, hall, g0, g1, g2, g3, Bool.not_true, hC2, hD, hb] <;> rfl) ?_
    refine Run.o ?_
    refine Run.o1 (by simp only [go_sem, hC, hst, hall, g0, g1, g2, g3, Bool.not_true, hC2, hD, hb]; (try simp (disch := omega) only [IntWalk.i64_in, IntWalk.u64_in, if_neg, if_pos])<;> rfl) ?_
    refine Run.o1 (by simp only [go_sem, hC, hst, hall, g0, g1, g2, g3, Bool.not_true, hC2, hD, hb] <;> rfl) ?_
    refine Run.nil ?_
    refine Exec.cndS (by simp only [go_sem, hC, hst, hall, g0, g1, g2, g3, Bool.not_true, hC2, hD, hb] <;> rfl) (fun hb151 => ?_) (fun hb151 => ?_)
    · skip
      have hne : ¬ b.day = d + 1 := by simpa using hb151
      have q1 : brq s (d + 1) b = false := by unfold brq; rw [decide_eq_false hne, Bool.false_and]
      have q2 : opq (d + 1) b = false := decide_eq_false hne
      rw [q1, if_neg (by decide), Int.add_zero] at hK2
      rw [q2, if_neg (by decide), Int.add_zero] at hO2
      refine Exec.exitS ?_
      refine BlkK.hit ?_
      refine Exec.reg1 ?_
      refine Run.o ?_
      refine Run.o1 (by simp only [go_sem, hC, hst, hall, g0, g1, g2, g3, Bool.not_true, hC2, hD, hb, hK2, hO2]; (try simp (disch := omega) only [IntWalk.i64_in, IntWalk.u64_in, if_neg, if_pos])<;> rfl) ?_
      refine Run.o ?_
      refine Run.nil ?_
      refine ForK.nxt ?_ ?_ ?_
      · omega
      · exact Ghost.kp [1, 2, 5, 7, 9, 11, 12, 13] [2] (by simp only [go_sem, hC, hst, hall, g0, g1, g2, g3, Bool.not_true, hC2, hD, hb, hK2, hO2]; first | ((repeat' (first | with_reducible_and_instances rfl | refine st_eq ?_ ?_ ?_ | refine ret_eq ?_ | refine tup_eq ?_ | refine tm_eq ?_ ?_ | refine arr_eq ?_ | refine cells_eq ?_ | refine val_eq ?_ | refine ls_eq ?_ ?_ | refine own_eq ?_ ?_ | refine sl_eq ?_ | refine b_eq ?_ | (refine i_eq ?_; omega))); done) | rfl)
      · trivial
    have hde : b.day = d + 1 := by simpa using hb151
    have q2 : opq (d + 1) b = true := decide_eq_true hde
    have q1 : brq s (d + 1) b = decide (d + 1 ≤ ee) := by unfold brq; rw [decide_eq_true hde, hEr, Bool.true_and]
    rw [q2, if_pos rfl] at hO2
    rw [q1] at hK2
    refine Exec.skipS ?_
    refine Exec.reg ?_
    refine Run.o ?_
    refine Run.o1 (by simp only [go_sem, hC, hst, hall, g0, g1, g2, g3, Bool.not_true, hC2, hD, hb, hO2]; (try simp (disch := omega) only [IntWalk.i64_in, IntWalk.u64_in, if_neg, if_pos])<;> rfl) ?_
    refine Run.o ?_
    refine Run.nil ?_
    refine Exec.opk 17 ?_
    refine OpenK.o1 (by simp only [go_sem, hC, hst, hall, g0, g1, g2, g3, Bool.not_true, hC2, hD, hb, hO2] <;> rfl) ?_
    refine OpenK.o ?_
    refine OpenK.o1 (by simp only [go_sem, hC, hst, hall, g0, g1, g2, g3, Bool.not_true, hC2, hD, hb, hO2] <;> rfl) ?_
    refine OpenK.o ?_
    iterate 2 (refine OpenK.o1 (by simp only [go_sem, hC, hst, hall, g0, g1, g2, g3, Bool.not_true, hC2, hD, hb, hO2]; (try simp (disch := omega) only [if_pos]); (try simp only [go_sem, hC, hst, hall, g0, g1, g2, g3, Bool.not_true, hC2, hD, hb, hO2])<;> rfl) ?_)
    refine OpenK.o1 (by simp only [go_sem, hC, hst, hall, g0, g1, g2, g3, Bool.not_true, hC2, hD, hb, hO2] <;> rfl) ?_
    refine OpenK.cal (hE) (by simp only [go_sem]) (by simp only [go_sem, hC, hst, hall, g0, g1, g2, g3, Bool.not_true, hC2, hD, hb, hO2] <;> rfl) (by exact ⟨by first | exact WkR.pure rfl | exact WkR.nil _ | exact WkR.int (by first | omega | (simp; done) | (simp; omega)), by first | exact WkR.pure rfl | exact WkR.nil _ | exact WkR.int (by first | omega | (simp; done) | (simp; omega)), trivial⟩) (fr0) (by simp only [go_sem, hC, hst, hall, g0, g1, g2, g3, Bool.not_true, hC2, hD, hb, hO2] <;> rfl) (by simp only [go_sem] <;> rfl) (by simp only [go_sem] <;> rfl) ?_
    refine OpenK.o ?_
    iterate 3 (refine OpenK.o1 (by simp only [go_sem, hC, hst, hall, g0, g1, g2, g3, Bool.not_true, hC2, hD, hb, hO2] <;> rfl) ?_)
    iterate 3 (refine OpenK.o ?_)
    refine OpenK.nil (OpenE.fin (by decide +kernel) (by decide +kernel) ?_)
    refine Exec.assocS ?_
    refine Exec.reg ?_
    refine Run.o ?_
    refine Run.o1 (by simp only [go_sem, hC, hst, hall, g0, g1, g2, g3, Bool.not_true, hC2, hD, hb, hO2] <;> rfl) ?_
    refine Run.nil ?_
    refine Exec.cndS (by simp only [go_sem, hC, hst, hall, g0, g1, g2, g3, Bool.not_true, hC2, hD, hb, hO2] <;> rfl) (fun hb167 => ?_) (fun hb167 => ?_)
    · exact absurd hb167 (by simp)
    refine Exec.skipS ?_
    refine Exec.reg ?_
    refine Run.o ?_
    refine Run.o1 (by simp only [go_sem, hC, hst, hall, g0, g1, g2, g3, Bool.not_true, hC2, hD, hb, hO2]; (try simp (disch := omega) only [IntWalk.i64_in, IntWalk.u64_in, if_neg, if_pos])<;> rfl) ?_
    refine Run.o ?_
    refine Run.o1 (by simp only [go_sem, hC, hst, hall, g0, g1, g2, g3, Bool.not_true, hC2, hD, hb, hO2] <;> rfl) ?_
    refine Run.nil ?_
    refine Exec.cnd (by simp only [go_sem, hC, hst, hall, g0, g1, g2, g3, Bool.not_true, hC2, hD, hb, hO2] <;> rfl) (fun hb171 => ?_) (fun hb171 => ?_)
    · skip
      have h3 : d + 1 < ee := of_decide_eq_true hb171
      rw [if_pos (decide_eq_true (by omega))] at hK2
      refine Exec.reg1 ?_
      refine Run.o ?_
      refine Run.o1 (by simp only [go_sem, hC, hst, hall, g0, g1, g2, g3, Bool.not_true, hC2, hD, hb, hO2, hK2]; (try simp (disch := omega) only [IntWalk.i64_in, IntWalk.u64_in, if_neg, if_pos])<;> rfl) ?_
      refine Run.o ?_
      refine Run.nil ?_
      refine BlkK.nrm ?_
      refine Exec.reg1 ?_
      refine Run.o ?_
      refine Run.o1 (by simp only [go_sem, hC, hst, hall, g0, g1, g2, g3, Bool.not_true, hC2, hD, hb, hO2, hK2]; (try simp (disch := omega) only [IntWalk.i64_in, IntWalk.u64_in, if_neg, if_pos])<;> rfl) ?_
      refine Run.o ?_
      refine Run.nil ?_
      refine ForK.nxt ?_ ?_ ?_
      · omega
      · exact Ghost.kp [1, 2, 5, 7, 9, 11, 12, 13] [2] (by simp only [go_sem, hC, hst, hall, g0, g1, g2, g3, Bool.not_true, hC2, hD, hb, hO2, hK2]; first | ((repeat' (first | with_reducible_and_instances rfl | refine st_eq ?_ ?_ ?_ | refine ret_eq ?_ | refine tup_eq ?_ | refine tm_eq ?_ ?_ | refine arr_eq ?_ | refine cells_eq ?_ | refine val_eq ?_ | refine ls_eq ?_ ?_ | refine own_eq ?_ ?_ | refine sl_eq ?_ | refine b_eq ?_ | (refine i_eq ?_; omega))); done) | rfl)
      · trivial
    refine Exec.reg ?_
    refine Run.o ?_
    refine Run.o1 (by simp only [go_sem, hC, hst, hall, g0, g1, g2, g3, Bool.not_true, hC2, hD, hb, hO2]; (try simp (disch := omega) only [IntWalk.i64_in, IntWalk.u64_in, if_neg, if_pos])<;> rfl) ?_
    refine Run.o ?_
    refine Run.o1 (by simp only [go_sem, hC, hst, hall, g0, g1, g2, g3, Bool.not_true, hC2, hD, hb, hO2] <;> rfl) ?_
    refine Run.nil ?_
    refine Exec.cnd (by simp only [go_sem, hC, hst, hall, g0, g1, g2, g3, Bool.not_true, hC2, hD, hb, hO2] <;> rfl) (fun hb177 => ?_) (fun hb177 => ?_)
    · skip
      have h3 : d + 1 = ee := by simpa using hb177
      rw [if_pos (decide_eq_true (by omega))] at hK2
      refine Exec.reg1 ?_
      refine Run.o ?_
      refine Run.o1 (by simp only [go_sem, hC, hst, hall, g0, g1, g2, g3, Bool.not_true, hC2, hD, hb, hO2, hK2]; (try simp (disch := omega) only [IntWalk.i64_in, IntWalk.u64_in, if_neg, if_pos])<;> rfl) ?_
      refine Run.o ?_
      refine Run.nil ?_
      refine BlkK.nrm ?_
      refine Exec.reg1 ?_
      refine Run.o ?_
      refine Run.o1 (by simp only [go_sem, hC, hst, hall, g0, g1, g2, g3, Bool.not_true, hC2, hD, hb, hO2, hK2]; (try simp (disch := omega) only [IntWalk.i64_in, IntWalk.u64_in, if_neg, if_pos])<;> rfl) ?_
      refine Run.o ?_
      refine Run.nil ?_
      refine ForK.nxt ?_ ?_ ?_
      · omega
      · exact Ghost.kp [1, 2, 5, 7, 9, 11, 12, 13] [2] (by simp only [go_sem, hC, hst, hall, g0, g1, g2, g3, Bool.not_true, hC2, hD, hb, hO2, hK2]; first | ((repeat' (first | with_reducible_and_instances rfl | refine st_eq ?_ ?_ ?_ | refine ret_eq ?_ | refine tup_eq ?_ | refine tm_eq ?_ ?_ | refine arr_eq ?_ | refine cells_eq ?_ | refine val_eq ?_ | refine ls_eq ?_ ?_ | refine own_eq ?_ ?_ | refine sl_eq ?_ | refine b_eq ?_ | (refine i_eq ?_; omega))); done) | rfl)
      · trivial
    have h3 : ¬ d + 1 < ee := of_decide_eq_false hb171
    have h4 : ¬ d + 1 = ee := by simpa using hb177
    rw [if_neg (by rw [decide_eq_true_eq]; omega), Int.add_zero] at hK2
    refine BlkK.nrm ?_
    refine Exec.reg1 ?_
    refine Run.o ?_
    refine Run.o1 (by simp only [go_sem, hC, hst, hall, g0, g1, g2, g3, Bool.not_true, hC2, hD, hb, hO2, hK2]; (try simp (disch := omega) only [IntWalk.i64_in, IntWalk.u64_in, if_neg, if_pos])<;> rfl) ?_
    refine Run.o ?_
    refine Run.nil ?_
    refine ForK.nxt ?_ ?_ ?_
    · omega
    · exact Ghost.kp [1, 2, 5, 7, 9, 11, 12, 13] [2] (by simp only [go_sem, hC, hst, hall, g0, g1, g2, g3, Bool.not_true, hC2, hD, hb, hO2, hK2]; first | ((repeat' (first | with_reducible_and_instances rfl | refine st_eq ?_ ?_ ?_ | refine ret_eq ?_ | refine tup_eq ?_ | refine tm_eq ?_ ?_ | refine arr_eq ?_ | refine cells_eq ?_ | refine val_eq ?_ | refine ls_eq ?_ ?_ | refine own_eq ?_ ?_ | refine sl_eq ?_ | refine b_eq ?_ | (refine i_eq ?_; omega))); done) | rfl)
    · trivial
  have hje : j = s.bs.length := by have := ge_of_dec hb140; omega
  subst hje
  refine Exec.exitS ?_
  refine ForK.ext ?_
  refine BlkK.hit ?_
  refine Exec.reg ?_
  refine Run.o1 (by simp only [go_sem, hC, hst, hall, g0, g1, g2, g3, Bool.not_true, hC2, hD, List.take_length] <;> rfl) ?_
  refine Run.o ?_
  refine Run.o1 (by simp only [go_sem, hC, hst, hall, g0, g1, g2, g3, Bool.not_true, hC2, hD, List.take_length]; (try simp (disch := omega) only [IntWalk.i64_in, IntWalk.u64_in, if_neg, if_pos])<;> rfl) ?_
  refine Run.o ?_
  refine Run.o1 (by simp only [go_sem, hC, hst, hall, g0, g1, g2, g3, Bool.not_true, hC2, hD, List.take_length]; (try simp (disch := omega) only [IntWalk.i64_in, IntWalk.u64_in, if_neg, if_pos])<;> rfl) ?_
  refine Run.o ?_
  refine Run.c1 (c_du s hsm (d + 1) (d + 1)) (by simp only [go_sem, hC, hst, hall, g0, g1, g2, g3, Bool.not_true, hC2, hD, List.take_length] <;> rfl) (by simp only [go_sem, hC, hst, hall, g0, g1, g2, g3, Bool.not_true, hC2, hD, List.take_length] <;> rfl) ?_
  refine Run.o ?_
  iterate 2 (refine Run.o1 (by simp only [go_sem, hC, hst, hall, g0, g1, g2, g3, Bool.not_true, hC2, hD, List.take_length] <;> rfl) ?_)
  iterate 2 (refine Run.o ?_)
  refine Run.nil ?_
  refine Exec.reg ?_
  refine Run.o ?_
  refine Run.nil ?_
  refine Exec.assocS ?_
  refine Exec.reg ?_
  refine Run.o ?_
  refine Run.nil ?_
  refine Exec.blk ?_
  refine Exec.forA [5, 7, 9, 11, 12, 17, 18, 19, 20] [2] (dl.length) (fun i => [.slot 20 (.int i), .slot 19 (.int (dl.take i).sum)]) (fun _ => True) (fun i => by simp only [go_sem] <;> rfl) (by simp only [go_sem, hC, hst, hall, g0, g1, g2, g3, Bool.not_true, hC2, hD, List.take_length, List.take_zero, List.sum_nil, Int.natCast_zero] <;> rfl) ?_ (fun i hi Xi => ?_)
  · trivial
  refine Exec.assocS ?_
  refine Exec.reg ?_
  iterate 2 (refine Run.o ?_)
  iterate 2 (refine Run.o1 (by simp only [go_sem, hC, hst, hall, g0, g1, g2, g3, Bool.not_true, hC2, hD, List.take_length] <;> rfl) ?_)
  refine Run.nil ?_
  refine Exec.cndS (by simp only [go_sem, hC, hst, hall, g0, g1, g2, g3, Bool.not_true, hC2, hD, List.take_length] <;> rfl) (fun hb193 => ?_) (fun hb193 => ?_)
  · skip
    have hlt := lt_of_dec hb193
    obtain ⟨x, hx⟩ : ∃ x, dl[i]? = some x := ⟨_, List.getElem?_eq_getElem hlt⟩
    have hxb := hdb x (List.mem_of_getElem? hx)
    have hsx := take_sum hx
    have hsb := sum_bnd' (B := 2000000 * s.rs.length) (l := dl.take i) fun y hy => hdb y (List.mem_of_mem_take hy)
    have hse : 2000000 * (s.rs.length : Int) * ((dl.take i).length : Int) ≤ 48000000 * 5 := by
      rw [List.length_take]
      have : 2000000 * (s.rs.length : Int) * ((min i dl.length : Nat) : Int) ≤ 48000000 * ((min i dl.length : Nat) : Int) := Int.mul_le_mul_of_nonneg_right (by omega) (by omega)
      omega
    refine Exec.skipS ?_
    refine Exec.blk ?_
    refine Exec.reg1 ?_
    iterate 3 (refine Run.o ?_)
    refine Run.o1 (by simp only [go_sem, hC, hst, hall, g0, g1, g2, g3, Bool.not_true, hC2, hD, List.take_length, hx, hsx]; (try simp (disch := omega) only [if_pos]); (try simp only [go_sem, hC, hst, hall, g0, g1, g2, g3, Bool.not_true, hC2, hD, List.take_length, hx, hsx])<;> rfl) ?_
    refine Run.o1 (by simp only [go_sem, hC, hst, hall, g0, g1, g2, g3, Bool.not_true, hC2, hD, List.take_length, hx, hsx] <;> rfl) ?_
    refine Run.o1 (by simp only [go_sem, hC, hst, hall, g0, g1, g2, g3, Bool.not_true, hC2, hD, List.take_length, hx, hsx]; (try simp (disch := omega) only [IntWalk.i64_in, IntWalk.u64_in, if_neg, if_pos])<;> rfl) ?_
    refine Run.o ?_
    refine Run.nil ?_
    refine BlkK.nrm ?_
    refine Exec.reg1 ?_
    refine Run.o ?_
    refine Run.o1 (by simp only [go_sem, hC, hst, hall, g0, g1, g2, g3, Bool.not_true, hC2, hD, List.take_length, hx, hsx]; (try simp (disch := omega) only [IntWalk.i64_in, IntWalk.u64_in, if_neg, if_pos])<;> rfl) ?_
    refine Run.o ?_
    refine Run.nil ?_
    refine ForK.nxt ?_ ?_ ?_
    · omega
    · exact Ghost.kp [5, 7, 9, 11, 12, 17, 18, 19, 20] [2] (by simp only [go_sem, hC, hst, hall, g0, g1, g2, g3, Bool.not_true, hC2, hD, List.take_length, hx, hsx]; first | ((repeat' (first | with_reducible_and_instances rfl | refine st_eq ?_ ?_ ?_ | refine ret_eq ?_ | refine tup_eq ?_ | refine tm_eq ?_ ?_ | refine arr_eq ?_ | refine cells_eq ?_ | refine val_eq ?_ | refine ls_eq ?_ ?_ | refine own_eq ?_ ?_ | refine sl_eq ?_ | refine b_eq ?_ | (refine i_eq ?_; omega))); done) | rfl)
    · trivial
  have hie : i = dl.length := by have := ge_of_dec hb193; omega
  subst hie
  have hsb := sum_bnd' (B := 2000000 * s.rs.length) (l := dl) fun y hy => hdb y hy
  have hse : 2000000 * (s.rs.length : Int) * (dl.length : Int) ≤ 48000000 * 5 := by
    have : 2000000 * (s.rs.length : Int) * (dl.length : Int) ≤ 48000000 * (dl.length : Int) := Int.mul_le_mul_of_nonneg_right (by omega) (by omega)
    omega
  refine Exec.exitS ?_
  refine ForK.ext ?_
  refine BlkK.hit ?_
  refine Exec.opk 45 ?_
  refine OpenK.o ?_
  iterate 2 (refine OpenK.o1 (by simp only [go_sem, hC, hst, hall, g0, g1, g2, g3, Bool.not_true, hC2, hD, List.take_length] <;> rfl) ?_)
  refine OpenK.y1 (by simp only [go_sem] <;> rfl) ?_
  refine OpenK.y1 (by simp only [go_sem, hC, hst, hall, g0, g1, g2, g3, Bool.not_true, hC2, hD, List.take_length]; (try simp (disch := omega) only [if_pos]); (try simp only [go_sem, hC, hst, hall, g0, g1, g2, g3, Bool.not_true, hC2, hD, List.take_length])<;> rfl) ?_
  refine OpenK.y1 (by simp only [go_sem, hC, hst, hall, g0, g1, g2, g3, Bool.not_true, hC2, hD, List.take_length] <;> rfl) ?_
  refine OpenK.y1 (by simp only [go_sem] <;> rfl) ?_
  refine OpenK.y1 (by simp only [go_sem, hC, hst, hall, g0, g1, g2, g3, Bool.not_true, hC2, hD, List.take_length]; (try simp (disch := omega) only [if_pos]); (try simp only [go_sem, hC, hst, hall, g0, g1, g2, g3, Bool.not_true, hC2, hD, List.take_length])<;> rfl) ?_
  refine OpenK.y1 (by simp only [go_sem, hC, hst, hall, g0, g1, g2, g3, Bool.not_true, hC2, hD, List.take_length] <;> rfl) ?_
  refine OpenK.y1 (by simp only [go_sem] <;> rfl) ?_
  refine OpenK.y1 (by simp only [go_sem, hC, hst, hall, g0, g1, g2, g3, Bool.not_true, hC2, hD, List.take_length]; (try simp (disch := omega) only [IntWalk.i64_in, IntWalk.u64_in, if_neg, if_pos])<;> rfl) ?_
  refine OpenK.y1 (by simp only [go_sem] <;> rfl) ?_
  refine OpenK.y1 (by simp only [go_sem, hC, hst, hall, g0, g1, g2, g3, Bool.not_true, hC2, hD, List.take_length]; (try simp (disch := omega) only [IntWalk.i64_in, IntWalk.u64_in, if_neg, if_pos])<;> rfl) ?_
  refine OpenK.y1 (by simp only [go_sem] <;> rfl) ?_
  refine OpenK.y1 (by simp only [go_sem, hC, hst, hall, g0, g1, g2, g3, Bool.not_true, hC2, hD, List.take_length]; (try simp (disch := omega) only [IntWalk.i64_in, IntWalk.u64_in, if_neg, if_pos])<;> rfl) ?_
  refine OpenK.y1 (by simp only [go_sem, hC, hst, hall, g0, g1, g2, g3, Bool.not_true, hC2, hD, List.take_length] <;> rfl) ?_
  iterate 2 (refine OpenK.o1 (by simp only [go_sem, hC, hst, hall, g0, g1, g2, g3, Bool.not_true, hC2, hD, List.take_length] <;> rfl) ?_)
  refine OpenK.y1 (by simp only [go_sem] <;> rfl) ?_
  refine OpenK.y1 (by simp only [go_sem, hC, hst, hall, g0, g1, g2, g3, Bool.not_true, hC2, hD, List.take_length]; (try simp (disch := omega) only [if_pos]); (try simp only [go_sem, hC, hst, hall, g0, g1, g2, g3, Bool.not_true, hC2, hD, List.take_length])<;> rfl) ?_
  refine OpenK.y1 (by simp only [go_sem, hC, hst, hall, g0, g1, g2, g3, Bool.not_true, hC2, hD, List.take_length] <;> rfl) ?_
  refine OpenK.y1 (by simp only [go_sem] <;> rfl) ?_
  refine OpenK.y1 (by simp only [go_sem, hC, hst, hall, g0, g1, g2, g3, Bool.not_true, hC2, hD, List.take_length]; (try simp (disch := omega) only [if_pos]); (try simp only [go_sem, hC, hst, hall, g0, g1, g2, g3, Bool.not_true, hC2, hD, List.take_length])<;> rfl) ?_
  refine OpenK.y1 (by simp only [go_sem, hC, hst, hall, g0, g1, g2, g3, Bool.not_true, hC2, hD, List.take_length] <;> rfl) ?_
  refine OpenK.y1 (by simp only [go_sem] <;> rfl) ?_
  refine OpenK.y1 (by simp only [go_sem, hC, hst, hall, g0, g1, g2, g3, Bool.not_true, hC2, hD, List.take_length]; (try simp (disch := omega) only [IntWalk.i64_in, IntWalk.u64_in, if_neg, if_pos])<;> rfl) ?_
  refine OpenK.y1 (by simp only [go_sem, hC, hst, hall, g0, g1, g2, g3, Bool.not_true, hC2, hD, List.take_length] <;> rfl) ?_
  iterate 2 (refine OpenK.o1 (by simp only [go_sem, hC, hst, hall, g0, g1, g2, g3, Bool.not_true, hC2, hD, List.take_length] <;> rfl) ?_)
  refine OpenK.y1 (by simp only [go_sem] <;> rfl) ?_
  refine OpenK.y1 (by simp only [go_sem, hC, hst, hall, g0, g1, g2, g3, Bool.not_true, hC2, hD, List.take_length]; (try simp (disch := omega) only [if_pos]); (try simp only [go_sem, hC, hst, hall, g0, g1, g2, g3, Bool.not_true, hC2, hD, List.take_length])<;> rfl) ?_
  refine OpenK.y1 (by simp only [go_sem, hC, hst, hall, g0, g1, g2, g3, Bool.not_true, hC2, hD, List.take_length] <;> rfl) ?_
  refine OpenK.y1 (by simp only [go_sem] <;> rfl) ?_
  refine OpenK.y1 (by simp only [go_sem, hC, hst, hall, g0, g1, g2, g3, Bool.not_true, hC2, hD, List.take_length]; (try simp (disch := omega) only [if_pos]); (try simp only [go_sem, hC, hst, hall, g0, g1, g2, g3, Bool.not_true, hC2, hD, List.take_length])<;> rfl) ?_
  refine OpenK.y1 (by simp only [go_sem, hC, hst, hall, g0, g1, g2, g3, Bool.not_true, hC2, hD, List.take_length] <;> rfl) ?_
  refine OpenK.y1 (by simp only [go_sem] <;> rfl) ?_
  refine OpenK.y1 (by simp only [go_sem, hC, hst, hall, g0, g1, g2, g3, Bool.not_true, hC2, hD, List.take_length]; (try simp (disch := omega) only [IntWalk.i64_in, IntWalk.u64_in, if_neg, if_pos])<;> rfl) ?_
  refine OpenK.y1 (by simp only [go_sem, hC, hst, hall, g0, g1, g2, g3, Bool.not_true, hC2, hD, List.take_length] <;> rfl) ?_
  iterate 2 (refine OpenK.o1 (by simp only [go_sem, hC, hst, hall, g0, g1, g2, g3, Bool.not_true, hC2, hD, List.take_length] <;> rfl) ?_)
  refine OpenK.calw (by simp only [go_sem] <;> rfl) (c_law_awake) (by simp only [go_sem]) (by simp only [go_sem, hC, hst, hall, g0, g1, g2, g3, Bool.not_true, hC2, hD, List.take_length] <;> rfl) (by simp only [go_sem, hC, hst, hall, g0, g1, g2, g3, Bool.not_true, hC2, hD, List.take_length] <;> rfl) (by exact trivial) (fr0) (by simp only [go_sem, hC, hst, hall, g0, g1, g2, g3, Bool.not_true, hC2, hD, List.take_length] <;> rfl) (by simp only [go_sem] <;> rfl) (by simp only [go_sem] <;> rfl) ?_
  refine OpenK.o1 (by simp only [go_sem, hC, hst, hall, g0, g1, g2, g3, Bool.not_true, hC2, hD, List.take_length] <;> rfl) ?_
  refine OpenK.o ?_
  refine OpenK.nil (OpenE.finT (by kernel_rfl) (by kernel_rfl) (by kernel_rfl) ?_)
  exact Ends.fin [] (rs := [.tmp 4]) rfl (by simp only [go_sem, hC, hst, hall, g0, g1, g2, g3, Bool.not_true, hC2, hD, List.take_length] <;> rfl) (by simp only [go_sem, hC, hst, hall, g0, g1, g2, g3, Bool.not_true, hC2, hD, List.take_length] <;> first | rfl | ((repeat' (first | with_reducible_and_instances rfl | refine st_eq ?_ ?_ ?_ | refine ret_eq ?_ | refine tup_eq ?_ | refine tm_eq ?_ ?_ | refine arr_eq ?_ | refine cells_eq ?_ | refine val_eq ?_ | refine ls_eq ?_ ?_ | refine own_eq ?_ ?_ | refine sl_eq ?_ | refine b_eq ?_ | (refine i_eq ?_; omega))); done))

end Go.Mw
namespace Go.Proofs.Ytkekecfocnidpaa
open Go.Mw Go.ChangeShapes Go.WideShapes Go.ChangeAt Go.RowKit

theorem own : ownKnob Try.prog.godebug = none := by kernel_rfl
theorem laidOut : laidOutB Try.prog = true := by kernel_rfl
set_option maxRecDepth 100000 in
theorem lifted (os : Os) (started : os.Started) (H : Type) (enc : TypeId × Value → H) :
    ReturnsInHanded {} Try.checked os 4 .any (Rows.termBalanceSpec.pre6 enc Try.prog Try.f4 Rows.termBalanceRow.domain false) (Rows.termBalanceSpec.post enc Try.prog Try.f4 false true false false) := by
  refine returnsInHanded_of_change (C := Try.checked) own started (by kernel_rfl) Try.func4
    (ChangeSpec.witness6 (enc := enc) (C := Try.checked) false ⟨#[], #[.agg #[.slice none 0 0, .slice none 0 0, .slice none 0 0, .slice none 0 0], .int .i64 0], []⟩ 8 (by kernel_rfl) (by kernel_rfl) (by kernel_rfl) (by kernel_rfl)) ?_
  intro W base args ds gs before hval0 hW hcnd _
  have hval : ∀ (j : Nat) t v, Try.f4.params[j]? = some t → args[j]? = some v → Value.okWide Try.prog W .any base t v := hval0
  have hW' := hW
  obtain ⟨p, q, hA0, hV, rfl, hfz, hnd⟩ := hW
  have hA : DataW.TrodAll enc Try.prog W 0 (fun _ => true) true Try.f4.params.toList args.toList ds p := hA0
  rw [Try.params4] at hA hval
  obtain ⟨v0, v1, d0, d1, p0, p1, rfl, rfl, rfl, h0, h1⟩ := trodAll_two hA
  obtain ⟨rfl, rfl⟩ := trodVars_none hV
  obtain ⟨x0, hx0⟩ := stk_read (hval 0 27 v0 rfl rfl) h0
  obtain ⟨x1, hb1, hx1⟩ := int_read (k := .i64) (P := Try.prog) (by kernel_rfl) (hval 1 3 v1 rfl rfl) h1
  refine (row_con (c_law_TermBalance x0 x1) W [v0, v1] ⟨hx0, hx1, trivial⟩).mono fun e W' ⟨he, hb⟩ => ?_
  exact ⟨_, he, post_below (tb := 4) hW' hb rfl rfl rfl (by kernel_rfl) laidOut (by decide +kernel)⟩
theorem holds : Rows.TermBalanceSaid :=
  OpenClaim.holds_of_wide 4 Try.f4 rfl rfl rfl rfl rfl rfl rfl ⟨rfl, rfl, rfl, rfl, rfl⟩ rfl rfl rfl rfl rfl (by kernel_rfl) Try.func4 (by kernel_rfl)
    (of_decide_eq_true (by kernel_rfl)) (by unfold Func.isWrapper; first | (rw [if_pos (by decide +kernel)]; kernel_rfl) | (rw [if_neg (by decide +kernel)]; exact ⟨rfl, rfl⟩))
    (fun os started H enc _ => lifted os started H enc)
end Go.Proofs.Ytkekecfocnidpaa
#print axioms Go.Proofs.Ytkekecfocnidpaa.holds

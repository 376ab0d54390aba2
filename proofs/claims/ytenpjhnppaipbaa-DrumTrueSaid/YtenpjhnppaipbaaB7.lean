/- Contracts of the functions that the drum reaches: pulses. -/
import Derived.Test.YtenpjhnppaipbaaB6
set_option linter.unusedSimpArgs false
set_option linter.unusedVariables false
set_option linter.unusedSectionVars false
set_option linter.deprecated false
namespace Go.Mw
open Go.Proofs
open Go.Dr
theorem div_e {a n : Int} (h : 0 ≤ a) : a.tdiv n = a / n := Int.tdiv_eq_ediv_of_nonneg h
def manyI (low high at_ : Int) : Int := if leastI at_ (low + 1) > high then 0 else 1 + (high - leastI at_ (low + 1)) / 10000
def PB (start : Int) (k : Nat) (p : PS) : Prop := (-1099511627776 * (k : Int) ≤ p.now - start ∧ p.now - start ≤ 1099511627776 * (k : Int)) ∧ 0 ≤ p.all ∧ p.all ≤ 200000000 * (k : Int) ∧ 0 ≤ p.ct ∧ p.ct ≤ p.all
theorem times_bnd {at_ now n : Int} (hn : -1099511627776 ≤ n ∧ n ≤ 1099511627776) (h : ¬ leastI at_ (lowI now n) > mostI at_ (highI now n)) : 1 ≤ timesI at_ now n ∧ timesI at_ now n ≤ 200000000 := by
  have h1 := least_ge at_ (lowI now n)
  have h2 := most_le at_ (highI now n)
  unfold timesI
  rcases Int.lt_or_le n 0 with hn0 | hn0
  · have hd := low_dn (now := now) hn0
    simp only [hd.1, hd.2] at h h1 h2 ⊢
    omega
  · have hd := low_up (now := now) hn0
    simp only [hd.1, hd.2] at h h1 h2 ⊢
    omega
theorem pb_step {start at_ : Int} {k : Nat} {p : PS} {n : Int} (hn : -1099511627776 ≤ n ∧ n ≤ 1099511627776) (h : PB start k p) : PB start (k + 1) (pStep at_ p n) := by
  obtain ⟨h1, h2, h3, h4, h5⟩ := h
  unfold pStep
  split
  · refine ⟨by simp only; omega, by simp only; omega, by simp only; omega, by simp only; omega, by simp only; omega⟩
  · rename_i hc
    have ht := times_bnd hn hc
    refine ⟨by simp only; omega, by simp only; omega, by simp only; omega, by simp only; split <;> omega, by simp only; split <;> omega⟩
theorem pb_all {start at_ : Int} {l : List Int} (h : ∀ n ∈ l, -1099511627776 ≤ n ∧ n ≤ 1099511627776) : ∀ k, k ≤ l.length → PB start k (pS at_ start (l.take k)) := by
  intro k
  induction k with
  | zero => intro _; exact ⟨by simp [pS], by simp [pS], by simp [pS], by simp [pS], by simp [pS]⟩
  | succ k ih =>
    intro hk
    have e : l.take (k + 1) = l.take k ++ [l[k]] := List.take_succ_eq_append_getElem (by omega)
    rw [e, pS_snoc]
    exact pb_step (h _ (List.getElem_mem _)) (ih (by omega))
/-- What the code holds as the last number, before there is one. -/
def lastI' (at_ : Int) (p : PS) : Int := if p.any = true then p.last else at_ + 1
theorem pS_snocK {at_ start : Int} {l : List Int} {k : Nat} {s : Int} (h : l[k]? = some s) : pS at_ start (l.take (k + 1)) = pStep at_ (pS at_ start (l.take k)) s := by rw [take_succ_snoc h, pS_snoc]
set_option maxRecDepth 20000 in
/-- meterworks/meterworksref02.many -/
theorem c_meterworksref02_many (low high at_ : Int) (hl : -100000000000000 ≤ low ∧ low ≤ 100000000000000) (hh : -100000000000000 ≤ high ∧ high ≤ 100000000000000) (ha : 0 ≤ at_ ∧ at_ ≤ 9999) : Contract Try.prog 40 [.int low, .int high, .int at_] (.int (manyI low high at_)) [] := by
  have e1 : low + 1 + (at_ - low - 1) % 10000 = leastI at_ (low + 1) := by unfold leastI; omega
  have hb := least_ge at_ (low + 1)
  have hb2 : leastI at_ (low + 1) ≤ low + 10001 := by unfold leastI; omega
  refine con_of follows_mixed Try.func40 rfl (by simp only [List.length_cons, List.length_nil, Try.ntmps40]; omega) (by kernel_rfl) rfl ?_
  refine Exec.reg ?_
  refine Run.op (by simp only [go_sem, e1] <;> rfl) (by simp only [go_sem] <;> rfl) ?_
  refine Run.nil ?_
  refine Exec.reg ?_
  refine Run.op (by simp only [go_sem, e1] <;> rfl) (by simp only [go_sem] <;> rfl) ?_
  refine Run.op (by simp only [go_sem, e1]; (try simp (disch := omega) only [IntWalk.i64_in, IntWalk.u64_in, if_neg, if_pos])<;> rfl) (by simp only [go_sem] <;> rfl) ?_
  iterate 2 (refine Run.op (by simp only [go_sem, e1] <;> rfl) (by simp only [go_sem] <;> rfl) ?_)
  refine Run.op (by simp only [go_sem, e1]; (try simp (disch := omega) only [IntWalk.i64_in, IntWalk.u64_in, if_neg, if_pos])<;> rfl) (by simp only [go_sem] <;> rfl) ?_
  refine Run.op (by simp only [go_sem, e1]; (try simp (disch := omega) only [IntWalk.i64_in, IntWalk.u64_in, if_neg, if_pos])<;> rfl) (by simp only [go_sem] <;> rfl) ?_
  refine Run.cal (c_meterworksref02_modulo (at_ - low - 1) 10000 (by omega) (by omega)) (by simp only [go_sem]) (by simp only [go_sem, e1] <;> rfl) (by exact ⟨by first | exact WkR.pure rfl | exact WkR.nil _ | exact WkR.int (by first | omega | (simp; done) | (simp; omega)), by first | exact WkR.pure rfl | exact WkR.nil _ | exact WkR.int (by first | omega | (simp; done) | (simp; omega)), trivial⟩) (fr0) (by simp only [go_sem, e1] <;> rfl) ?_
  refine Run.op (by simp only [go_sem, e1]; (try simp (disch := omega) only [IntWalk.i64_in, IntWalk.u64_in, if_neg, if_pos])<;> rfl) (by simp only [go_sem] <;> rfl) ?_
  refine Run.op (by simp only [go_sem, e1] <;> rfl) (by simp only [go_sem] <;> rfl) ?_
  refine Run.nil ?_
  refine Exec.assocS ?_
  refine Exec.reg ?_
  iterate 3 (refine Run.op (by simp only [go_sem, e1] <;> rfl) (by simp only [go_sem] <;> rfl) ?_)
  refine Run.nil ?_
  refine Exec.cndS (by simp only [go_sem, e1] <;> rfl) (fun hb18 => ?_) (fun hb18 => ?_)
  · skip
    have hr : manyI low high at_ = 0 := if_pos (of_decide_eq_true hb18)
    refine Exec.assocS ?_
    refine Exec.reg ?_
    refine Run.op (by simp only [go_sem, e1, hr] <;> rfl) (by simp only [go_sem] <;> rfl) ?_
    refine Run.nil ?_
    refine Exec.retS ?_
    exact Ends.fin [] (rs := [.tmp 6]) rfl (by simp only [go_sem, e1, hr] <;> rfl) (by simp only [go_sem, e1, hr] <;> first | rfl | ((repeat' (first | with_reducible_and_instances rfl | refine st_eq ?_ ?_ ?_ | refine ret_eq ?_ | refine tup_eq ?_ | refine tm_eq ?_ ?_ | refine arr_eq ?_ | refine cells_eq ?_ | refine val_eq ?_ | refine ls_eq ?_ ?_ | refine own_eq ?_ ?_ | refine sl_eq ?_ | refine b_eq ?_ | (refine i_eq ?_; omega))); done))
  · skip
    have hc : ¬ leastI at_ (low + 1) > high := of_decide_eq_false hb18
    have hr : manyI low high at_ = 1 + (high - leastI at_ (low + 1)) / 10000 := if_neg hc
    have e2 : (high - leastI at_ (low + 1)).tdiv 10000 = (high - leastI at_ (low + 1)) / 10000 := tdiv_e (by omega)
    have h3 := Int.ediv_nonneg (a := high - leastI at_ (low + 1)) (b := 10000) (by omega) (by omega)
    refine Exec.skipS ?_
    refine Exec.reg ?_
    iterate 2 (refine Run.op (by simp only [go_sem, e1, hr, e2] <;> rfl) (by simp only [go_sem] <;> rfl) ?_)
    refine Run.op (by simp only [go_sem, e1, hr, e2]; (try simp (disch := omega) only [IntWalk.i64_in, IntWalk.u64_in, if_neg, if_pos])<;> rfl) (by simp only [go_sem] <;> rfl) ?_
    refine Run.op (by simp only [go_sem, e1, hr, e2]; (try simp (disch := omega) only [IntWalk.i64_in, IntWalk.u64_in, if_neg, if_pos])<;> rfl) (by simp only [go_sem] <;> rfl) ?_
    refine Run.op (by simp only [go_sem, e1, hr, e2]; (try simp (disch := omega) only [IntWalk.i64_in, IntWalk.u64_in, if_neg, if_pos])<;> rfl) (by simp only [go_sem] <;> rfl) ?_
    refine Run.op (by simp only [go_sem, e1, hr, e2] <;> rfl) (by simp only [go_sem] <;> rfl) ?_
    refine Run.nil ?_
    exact Ends.fin [] (rs := [.tmp 6]) rfl (by simp only [go_sem, e1, hr, e2] <;> rfl) (by simp only [go_sem, e1, hr, e2] <;> first | rfl | ((repeat' (first | with_reducible_and_instances rfl | refine st_eq ?_ ?_ ?_ | refine ret_eq ?_ | refine tup_eq ?_ | refine tm_eq ?_ ?_ | refine arr_eq ?_ | refine cells_eq ?_ | refine val_eq ?_ | refine ls_eq ?_ ?_ | refine own_eq ?_ ?_ | refine sl_eq ?_ | refine b_eq ?_ | (refine i_eq ?_; omega))); done))

set_option maxRecDepth 20000 in
set_option maxHeartbeats 8000000 in
/-- meterworks/drum.Pulses -/
theorem c_drum_Pulses (r : Reg) (l : List Int) (at_ : Int) (hl : l.length ≤ 1000) : Contract Try.prog 14 [regV r, .leaf (.d (intsD l)), .int at_] (tupI [(pulsesR r l at_).1, (pulsesR r l at_).2.1, (pulsesR r l at_).2.2]) [] := by
  refine con_of follows_mixed Try.func14 rfl (by simp only [List.length_cons, List.length_nil, Try.ntmps14]; omega) (by kernel_rfl) rfl ?_
  refine Exec.reg ?_
  iterate 4 (refine Run.op (by simp only [go_sem] <;> rfl) (by simp only [go_sem] <;> rfl) ?_)
  refine Run.nil ?_
  refine Exec.reg ?_
  iterate 2 (refine Run.op (by simp only [go_sem] <;> rfl) (by simp only [go_sem] <;> rfl) ?_)
  refine Run.cal (c_drum_check r l hl) (by simp only [go_sem]) (by simp only [go_sem] <;> rfl) (by exact ⟨by first | exact WkR.pure rfl | exact WkR.nil _ | exact WkR.int (by first | omega | (simp; done) | (simp; omega)), by first | exact WkR.pure rfl | exact WkR.nil _ | exact WkR.int (by first | omega | (simp; done) | (simp; omega)), trivial⟩) (fr0) (by simp only [go_sem] <;> rfl) ?_
  refine Run.op (by simp only [go_sem] <;> rfl) (by simp only [go_sem] <;> rfl) ?_
  refine Run.nil ?_
  refine Exec.blk ?_
  refine Exec.reg ?_
  iterate 3 (refine Run.op (by simp only [go_sem] <;> rfl) (by simp only [go_sem] <;> rfl) ?_)
  refine Run.nil ?_
  refine Exec.cnd (by simp only [go_sem] <;> rfl) (fun hb21 => ?_) (fun hb21 => ?_)
  · skip
    have he : ¬ errD r l = 0 := by simpa using hb21
    have hr : pulsesR r l at_ = (0, 0, errD r l) := if_neg he
    refine Exec.reg ?_
    iterate 4 (refine Run.op (by simp only [go_sem, hr] <;> rfl) (by simp only [go_sem] <;> rfl) ?_)
    refine Run.nil ?_
    refine BlkK.ret ?_
    exact Ends.fin [] (rs := [.tmp 6, .tmp 7, .tmp 8]) rfl (by simp only [go_sem, hr] <;> rfl) (by simp only [go_sem, hr] <;> first | rfl | ((repeat' (first | with_reducible_and_instances rfl | refine st_eq ?_ ?_ ?_ | refine ret_eq ?_ | refine tup_eq ?_ | refine tm_eq ?_ ?_ | refine arr_eq ?_ | refine cells_eq ?_ | refine val_eq ?_ | refine ls_eq ?_ ?_ | refine own_eq ?_ ?_ | refine sl_eq ?_ | refine b_eq ?_ | (refine i_eq ?_; omega))); done))
  · skip
    have he : errD r l = 0 := by simpa using hb21
    obtain ⟨hreg, hl32, hlb⟩ := err_zero he
    have hq := reg_iff.1 hreg
    have htb := turn_bnd hq.1.2
    refine Exec.reg ?_
    refine Run.op (by simp only [go_sem] <;> rfl) (by simp only [go_sem] <;> rfl) ?_
    refine Run.cal (c_drum_within _ _ _) (by simp only [go_sem]) (by simp only [go_sem] <;> rfl) (by exact ⟨by first | exact WkR.pure rfl | exact WkR.nil _ | exact WkR.int (by first | omega | (simp; done) | (simp; omega)), by first | exact WkR.pure rfl | exact WkR.nil _ | exact WkR.int (by first | omega | (simp; done) | (simp; omega)), by first | exact WkR.pure rfl | exact WkR.nil _ | exact WkR.int (by first | omega | (simp; done) | (simp; omega)), trivial⟩) (fr0) (by simp only [go_sem] <;> rfl) ?_
    iterate 2 (refine Run.op (by simp only [go_sem] <;> rfl) (by simp only [go_sem] <;> rfl) ?_)
    refine Run.nil ?_
    refine Exec.cnd (by simp only [go_sem] <;> rfl) (fun hb25 => ?_) (fun hb25 => ?_)
    · skip
      have hin : inD at_ 0 9999 = false := by simpa using hb25
      have hr : pulsesR r l at_ = (0, 0, 2) := by unfold pulsesR; rw [if_pos he, if_neg (by simp [hin])]
      refine Exec.reg ?_
      iterate 3 (refine Run.op (by simp only [go_sem, hr] <;> rfl) (by simp only [go_sem] <;> rfl) ?_)
      refine Run.nil ?_
      refine BlkK.ret ?_
      exact Ends.fin [] (rs := [.tmp 6, .tmp 7, .tmp 8]) rfl (by simp only [go_sem, hr] <;> rfl) (by simp only [go_sem, hr] <;> first | rfl | ((repeat' (first | with_reducible_and_instances rfl | refine st_eq ?_ ?_ ?_ | refine ret_eq ?_ | refine tup_eq ?_ | refine tm_eq ?_ ?_ | refine arr_eq ?_ | refine cells_eq ?_ | refine val_eq ?_ | refine ls_eq ?_ ?_ | refine own_eq ?_ ?_ | refine sl_eq ?_ | refine b_eq ?_ | (refine i_eq ?_; omega))); done))
    · skip
      have hin : inD at_ 0 9999 = true := by simpa using hb25
      have hat := inD_iff.1 hin
      have hr : pulsesR r l at_ = ((pS at_ r.start l).ct, (pS at_ r.start l).all, 0) := by unfold pulsesR; rw [if_pos he, if_pos hin]
      refine BlkK.nrm ?_
      refine Exec.reg ?_
      iterate 3 (refine Run.op (by simp only [go_sem, hr] <;> rfl) (by simp only [go_sem] <;> rfl) ?_)
      refine Run.nil ?_
      refine Exec.reg ?_
      refine Run.op (by simp only [go_sem, hr] <;> rfl) (by simp only [go_sem] <;> rfl) ?_
      refine Run.op (by simp only [go_sem, hr]; (try simp (disch := omega) only [IntWalk.i64_in, IntWalk.u64_in, if_neg, if_pos])<;> rfl) (by simp only [go_sem] <;> rfl) ?_
      refine Run.op (by simp only [go_sem, hr] <;> rfl) (by simp only [go_sem] <;> rfl) ?_
      refine Run.nil ?_
      refine Exec.assocS ?_
      refine Exec.reg ?_
      iterate 3 (refine Run.op (by simp only [go_sem, hr] <;> rfl) (by simp only [go_sem] <;> rfl) ?_)
      refine Run.nil ?_
      refine Exec.blk ?_
      refine Exec.forA [2, 6, 7, 9, 10, 33, 34, 35] [3] (l.length) (fun k => [.slot 35 (.int k), .slot 9 (.int (pS at_ r.start (l.take k)).now), .slot 10 (.int (lastI' at_ (pS at_ r.start (l.take k)))), .slot 6 (.int (pS at_ r.start (l.take k)).ct), .slot 7 (.int (pS at_ r.start (l.take k)).all)]) (fun _ => True) (fun k => by simp only [go_sem] <;> rfl) (by simp only [go_sem, List.take_zero, pS_nil, lastI', Int.natCast_zero] <;> rfl) ?_ (fun k hk hX => ?_)
      · trivial
      · skip
        refine Exec.reg ?_
        refine Run.op (by simp only [go_sem, hr] <;> rfl) (by simp only [go_sem] <;> rfl) ?_
        refine Run.nil ?_
        refine Exec.cndS (by simp only [go_sem, hr] <;> rfl) (fun hb36 => ?_) (fun hb36 => ?_)
        · skip
          have hlt := lt_of_dec hb36
          obtain ⟨s, hs⟩ := elem_of hb36
          have hsb := hlb s (List.mem_of_getElem? hs)
          have hst := pS_snocK (at_ := at_) (start := r.start) hs
          have hpb := pb_all (start := r.start) (at_ := at_) hlb k (by omega)
          obtain ⟨p, hp⟩ : ∃ p, (pS at_ r.start (l.take k)) = p := ⟨_, rfl⟩
          rw [hp] at hst hpb
          obtain ⟨q1, q2, q3, q4, q5⟩ := hpb
          simp only [hp]
          obtain ⟨lo, hlo⟩ : ∃ x, lowI p.now s = x := ⟨_, rfl⟩
          obtain ⟨hi, hhi⟩ : ∃ x, highI p.now s = x := ⟨_, rfl⟩
          have hlob : -100000000000000 ≤ lo ∧ lo ≤ 100000000000000 := by rw [← hlo]; unfold lowI; split <;> omega
          have hhib : -100000000000000 ≤ hi ∧ hi ≤ 100000000000000 := by rw [← hhi]; unfold highI; split <;> omega
          have eL : lo + (at_ - lo) % 10000 = leastI at_ lo := rfl
          have eH : hi - (hi - at_) % 10000 = mostI at_ hi := rfl
          have bL := least_ge at_ lo
          have bH := most_le at_ hi
          have bL2 : leastI at_ lo ≤ lo + 10000 := by unfold leastI; omega
          have bH2 : hi - 10000 ≤ mostI at_ hi := by unfold mostI; omega
          refine Exec.skipS ?_
          refine Exec.blk ?_
          refine Exec.reg ?_
          refine Run.op (by simp only [go_sem, hr, hs, hst, eL, eH]; (try simp (disch := omega) only [if_pos]); (try simp only [go_sem, hr, hs, hst, eL, eH])<;> rfl) (by simp only [go_sem] <;> rfl) ?_
          iterate 2 (refine Run.op (by simp only [go_sem, hr, hs, hst, eL, eH] <;> rfl) (by simp only [go_sem] <;> rfl) ?_)
          refine Run.nil ?_
          refine Exec.reg ?_
          refine Run.op (by simp only [go_sem, hr, hs, hst, eL, eH] <;> rfl) (by simp only [go_sem] <;> rfl) ?_
          refine Run.op (by simp only [go_sem, hr, hs, hst, eL, eH]; (try simp (disch := omega) only [IntWalk.i64_in, IntWalk.u64_in, if_neg, if_pos])<;> rfl) (by simp only [go_sem] <;> rfl) ?_
          iterate 2 (refine Run.op (by simp only [go_sem, hr, hs, hst, eL, eH] <;> rfl) (by simp only [go_sem] <;> rfl) ?_)
          refine Run.op (by simp only [go_sem, hr, hs, hst, eL, eH]; (try simp (disch := omega) only [IntWalk.i64_in, IntWalk.u64_in, if_neg, if_pos])<;> rfl) (by simp only [go_sem] <;> rfl) ?_
          iterate 2 (refine Run.op (by simp only [go_sem, hr, hs, hst, eL, eH] <;> rfl) (by simp only [go_sem] <;> rfl) ?_)
          refine Run.nil ?_
          refine Exec.assocS ?_
          refine Exec.reg ?_
          iterate 2 (refine Run.op (by simp only [go_sem, hr, hs, hst, eL, eH] <;> rfl) (by simp only [go_sem] <;> rfl) ?_)
          refine Run.nil ?_
          refine Exec.joinA [1, 2, 3, 6, 7, 9, 10, 12, 13, 14, 33, 34, 35] [3] (fun (u1 : Unit) => [.slot 13 (.int lo), .slot 14 (.int hi)]) (fun (u1 : Unit) => True) (fun u1 => by simp only [go_sem] <;> rfl) ?_ (fun u1 hj => ?_)
          · skip
            refine Exec.cnd (by simp only [go_sem, hr, hs, hst, eL, eH] <;> rfl) (fun hb45 => ?_) (fun hb45 => ?_)
            · skip
              have hn : s < 0 := of_decide_eq_true hb45
              have e1 : p.now + s = lo := by rw [← hlo]; exact (if_pos hn).symm
              have e2 : p.now - 1 = hi := by rw [← hhi]; exact (if_pos hn).symm
              refine Exec.reg1 ?_
              iterate 2 (refine Run.op (by simp only [go_sem, hr, hs, hst, eL, eH, e1, e2] <;> rfl) (by simp only [go_sem] <;> rfl) ?_)
              refine Run.op (by simp only [go_sem, hr, hs, hst, eL, eH, e1, e2]; (try simp (disch := omega) only [IntWalk.i64_in, IntWalk.u64_in, if_neg, if_pos])<;> rfl) (by simp only [go_sem] <;> rfl) ?_
              refine Run.op (by simp only [go_sem, hr, hs, hst, eL, eH, e1, e2] <;> rfl) (by simp only [go_sem] <;> rfl) ?_
              refine Run.op (by simp only [go_sem, hr, hs, hst, eL, eH, e1, e2]; (try simp (disch := omega) only [IntWalk.i64_in, IntWalk.u64_in, if_neg, if_pos])<;> rfl) (by simp only [go_sem] <;> rfl) ?_
              iterate 2 (refine Run.op (by simp only [go_sem, hr, hs, hst, eL, eH, e1, e2] <;> rfl) (by simp only [go_sem] <;> rfl) ?_)
              refine Run.nil ?_
              refine JoinK.nrm (()) ?_ ?_
              · trivial
              · exact Ghost.kp [1, 2, 3, 6, 7, 9, 10, 12, 13, 14, 33, 34, 35] [3] (by simp only [go_sem, hr, hs, hst, eL, eH, e1, e2]; first | ((repeat' (first | with_reducible_and_instances rfl | refine st_eq ?_ ?_ ?_ | refine ret_eq ?_ | refine tup_eq ?_ | refine tm_eq ?_ ?_ | refine arr_eq ?_ | refine cells_eq ?_ | refine val_eq ?_ | refine ls_eq ?_ ?_ | refine own_eq ?_ ?_ | refine sl_eq ?_ | refine b_eq ?_ | (refine i_eq ?_; omega))); done) | rfl)
            · skip
              have hn : ¬ s < 0 := of_decide_eq_false hb45
              have e1 : p.now + 1 = lo := by rw [← hlo]; exact (if_neg hn).symm
              have e2 : p.now + s = hi := by rw [← hhi]; exact (if_neg hn).symm
              refine JoinK.nrm (()) ?_ ?_
              · trivial
              · exact Ghost.kp [1, 2, 3, 6, 7, 9, 10, 12, 13, 14, 33, 34, 35] [3] (by simp only [go_sem, hr, hs, hst, eL, eH, e1, e2]; first | ((repeat' (first | with_reducible_and_instances rfl | refine st_eq ?_ ?_ ?_ | refine ret_eq ?_ | refine tup_eq ?_ | refine tm_eq ?_ ?_ | refine arr_eq ?_ | refine cells_eq ?_ | refine val_eq ?_ | refine ls_eq ?_ ?_ | refine own_eq ?_ ?_ | refine sl_eq ?_ | refine b_eq ?_ | (refine i_eq ?_; omega))); done) | rfl)
          · skip
            refine Exec.reg ?_
            iterate 2 (refine Run.op (by simp only [go_sem, hr, hs, hst, eL, eH] <;> rfl) (by simp only [go_sem] <;> rfl) ?_)
            refine Run.op (by simp only [go_sem, hr, hs, hst, eL, eH]; (try simp (disch := omega) only [IntWalk.i64_in, IntWalk.u64_in, if_neg, if_pos])<;> rfl) (by simp only [go_sem] <;> rfl) ?_
            refine Run.op (by simp only [go_sem, hr, hs, hst, eL, eH] <;> rfl) (by simp only [go_sem] <;> rfl) ?_
            refine Run.nil ?_
            refine Exec.reg ?_
            iterate 3 (refine Run.op (by simp only [go_sem, hr, hs, hst, eL, eH] <;> rfl) (by simp only [go_sem] <;> rfl) ?_)
            refine Run.op (by simp only [go_sem, hr, hs, hst, eL, eH]; (try simp (disch := omega) only [IntWalk.i64_in, IntWalk.u64_in, if_neg, if_pos])<;> rfl) (by simp only [go_sem] <;> rfl) ?_
            refine Run.cal (c_drum_modulo (at_ - lo) 10000 (by omega) (by omega)) (by simp only [go_sem]) (by simp only [go_sem, hr, hs, hst, eL, eH] <;> rfl) (by exact ⟨by first | exact WkR.pure rfl | exact WkR.nil _ | exact WkR.int (by first | omega | (simp; done) | (simp; omega)), by first | exact WkR.pure rfl | exact WkR.nil _ | exact WkR.int (by first | omega | (simp; done) | (simp; omega)), trivial⟩) (fr0) (by simp only [go_sem, hr, hs, hst, eL, eH] <;> rfl) ?_
            refine Run.op (by simp only [go_sem, hr, hs, hst, eL, eH]; (try simp (disch := omega) only [IntWalk.i64_in, IntWalk.u64_in, if_neg, if_pos])<;> rfl) (by simp only [go_sem] <;> rfl) ?_
            iterate 3 (refine Run.op (by simp only [go_sem, hr, hs, hst, eL, eH] <;> rfl) (by simp only [go_sem] <;> rfl) ?_)
            refine Run.op (by simp only [go_sem, hr, hs, hst, eL, eH]; (try simp (disch := omega) only [IntWalk.i64_in, IntWalk.u64_in, if_neg, if_pos])<;> rfl) (by simp only [go_sem] <;> rfl) ?_
            refine Run.cal (c_drum_modulo (hi - at_) 10000 (by omega) (by omega)) (by simp only [go_sem]) (by simp only [go_sem, hr, hs, hst, eL, eH] <;> rfl) (by exact ⟨by first | exact WkR.pure rfl | exact WkR.nil _ | exact WkR.int (by first | omega | (simp; done) | (simp; omega)), by first | exact WkR.pure rfl | exact WkR.nil _ | exact WkR.int (by first | omega | (simp; done) | (simp; omega)), trivial⟩) (fr0) (by simp only [go_sem, hr, hs, hst, eL, eH] <;> rfl) ?_
            refine Run.op (by simp only [go_sem, hr, hs, hst, eL, eH]; (try simp (disch := omega) only [IntWalk.i64_in, IntWalk.u64_in, if_neg, if_pos])<;> rfl) (by simp only [go_sem] <;> rfl) ?_
            iterate 2 (refine Run.op (by simp only [go_sem, hr, hs, hst, eL, eH] <;> rfl) (by simp only [go_sem] <;> rfl) ?_)
            refine Run.nil ?_
            refine Exec.assocS ?_
            refine Exec.reg ?_
            iterate 3 (refine Run.op (by simp only [go_sem, hr, hs, hst, eL, eH] <;> rfl) (by simp only [go_sem] <;> rfl) ?_)
            refine Run.nil ?_
            refine Exec.cndS (by simp only [go_sem, hr, hs, hst, eL, eH] <;> rfl) (fun hb68 => ?_) (fun hb68 => ?_)
            · skip
              have hc : leastI at_ lo > mostI at_ hi := of_decide_eq_true hb68
              have hcs : pStep at_ p s = { p with now := p.now + s } := by unfold pStep; rw [hlo, hhi, if_pos hc]
              refine Exec.exitS ?_
              refine BlkK.hit ?_
              refine Exec.reg1 ?_
              refine Run.op (by simp only [go_sem, hr, hs, hst, eL, eH, hcs]; (try simp (disch := omega) only [IntWalk.i64_in, IntWalk.u64_in, if_neg, if_pos])<;> rfl) (by simp only [go_sem] <;> rfl) ?_
              refine Run.op (by simp only [go_sem, hr, hs, hst, eL, eH, hcs] <;> rfl) (by simp only [go_sem] <;> rfl) ?_
              refine Run.nil ?_
              refine ForK.nxt ?_ ?_ ?_
              · omega
              · exact Ghost.kp [2, 6, 7, 9, 10, 33, 34, 35] [3] (by simp only [go_sem, hr, hs, hst, eL, eH, hcs]; first | ((repeat' (first | with_reducible_and_instances rfl | refine st_eq ?_ ?_ ?_ | refine ret_eq ?_ | refine tup_eq ?_ | refine tm_eq ?_ ?_ | refine arr_eq ?_ | refine cells_eq ?_ | refine val_eq ?_ | refine ls_eq ?_ ?_ | refine own_eq ?_ ?_ | refine sl_eq ?_ | refine b_eq ?_ | (refine i_eq ?_; omega))); (all_goals (first | omega | (simp [lastI']; try omega)))) | rfl)
              · trivial
            · skip
              have hc : ¬ leastI at_ lo > mostI at_ hi := of_decide_eq_false hb68
              have htb2 := times_bnd (at_ := at_) (now := p.now) (n := s) hsb (by rw [hlo, hhi]; exact hc)
              have e3 : (mostI at_ hi - leastI at_ lo).tdiv 10000 = (mostI at_ hi - leastI at_ lo) / 10000 := tdiv_e (by omega)
              have e4 : (mostI at_ hi - leastI at_ lo) / 10000 + 1 = timesI at_ p.now s := by unfold timesI; rw [hlo, hhi]
              obtain ⟨tt, htt⟩ : ∃ x, timesI at_ p.now s = x := ⟨_, rfl⟩
              rw [htt] at e4 htb2
              obtain ⟨bg, hbg⟩ : ∃ x, beginI at_ p.now s = x := ⟨_, rfl⟩
              obtain ⟨en, hen⟩ : ∃ x, endI at_ p.now s = x := ⟨_, rfl⟩
              refine Exec.skipS ?_
              refine Exec.reg ?_
              iterate 2 (refine Run.op (by simp only [go_sem, hr, hs, hst, eL, eH, e3, e4] <;> rfl) (by simp only [go_sem] <;> rfl) ?_)
              refine Run.op (by simp only [go_sem, hr, hs, hst, eL, eH, e3, e4]; (try simp (disch := omega) only [IntWalk.i64_in, IntWalk.u64_in, if_neg, if_pos])<;> rfl) (by simp only [go_sem] <;> rfl) ?_
              refine Run.op (by simp only [go_sem, hr, hs, hst, eL, eH, e3, e4]; (try simp (disch := omega) only [IntWalk.i64_in, IntWalk.u64_in, if_neg, if_pos])<;> rfl) (by simp only [go_sem] <;> rfl) ?_
              refine Run.op (by simp only [go_sem, hr, hs, hst, eL, eH, e3, e4]; (try simp (disch := omega) only [IntWalk.i64_in, IntWalk.u64_in, if_neg, if_pos])<;> rfl) (by simp only [go_sem] <;> rfl) ?_
              refine Run.op (by simp only [go_sem, hr, hs, hst, eL, eH, e3, e4] <;> rfl) (by simp only [go_sem] <;> rfl) ?_
              refine Run.nil ?_
              refine Exec.reg ?_
              iterate 2 (refine Run.op (by simp only [go_sem, hr, hs, hst, eL, eH, e3, e4] <;> rfl) (by simp only [go_sem] <;> rfl) ?_)
              refine Run.op (by simp only [go_sem, hr, hs, hst, eL, eH, e3, e4]; (try simp (disch := omega) only [IntWalk.i64_in, IntWalk.u64_in, if_neg, if_pos])<;> rfl) (by simp only [go_sem] <;> rfl) ?_
              iterate 2 (refine Run.op (by simp only [go_sem, hr, hs, hst, eL, eH, e3, e4] <;> rfl) (by simp only [go_sem] <;> rfl) ?_)
              refine Run.op (by simp only [go_sem, hr, hs, hst, eL, eH, e3, e4]; (try simp (disch := omega) only [IntWalk.i64_in, IntWalk.u64_in, if_neg, if_pos])<;> rfl) (by simp only [go_sem] <;> rfl) ?_
              iterate 2 (refine Run.op (by simp only [go_sem, hr, hs, hst, eL, eH, e3, e4] <;> rfl) (by simp only [go_sem] <;> rfl) ?_)
              refine Run.nil ?_
              refine Exec.reg ?_
              iterate 4 (refine Run.op (by simp only [go_sem, hr, hs, hst, eL, eH, e3, e4] <;> rfl) (by simp only [go_sem] <;> rfl) ?_)
              refine Run.nil ?_
              refine Exec.assocS ?_
              refine Exec.reg ?_
              iterate 2 (refine Run.op (by simp only [go_sem, hr, hs, hst, eL, eH, e3, e4] <;> rfl) (by simp only [go_sem] <;> rfl) ?_)
              refine Run.nil ?_
              refine Exec.joinA [1, 2, 3, 6, 7, 9, 13, 14, 10, 16, 17, 33, 34, 35] [3] (fun (u2 : Unit) => [.slot 16 (.int bg), .slot 17 (.int en)]) (fun (u2 : Unit) => True) (fun u2 => by simp only [go_sem] <;> rfl) ?_ (fun u2 hj => ?_)
              · skip
                refine Exec.cnd (by simp only [go_sem, hr, hs, hst, eL, eH, e3, e4] <;> rfl) (fun hb83 => ?_) (fun hb83 => ?_)
                · skip
                  have hn : s < 0 := of_decide_eq_true hb83
                  have e5 : mostI at_ hi = bg := by rw [← hbg, ← hhi]; exact (if_pos hn).symm
                  have e6 : leastI at_ lo = en := by rw [← hen, ← hlo]; exact (if_pos hn).symm
                  refine Exec.reg1 ?_
                  iterate 4 (refine Run.op (by simp only [go_sem, hr, hs, hst, eL, eH, e3, e4, e5, e6] <;> rfl) (by simp only [go_sem] <;> rfl) ?_)
                  refine Run.nil ?_
                  refine JoinK.nrm (()) ?_ ?_
                  · trivial
                  · exact Ghost.kp [1, 2, 3, 6, 7, 9, 13, 14, 10, 16, 17, 33, 34, 35] [3] (by simp only [go_sem, hr, hs, hst, eL, eH, e3, e4, e5, e6]; first | ((repeat' (first | with_reducible_and_instances rfl | refine st_eq ?_ ?_ ?_ | refine ret_eq ?_ | refine tup_eq ?_ | refine tm_eq ?_ ?_ | refine arr_eq ?_ | refine cells_eq ?_ | refine val_eq ?_ | refine ls_eq ?_ ?_ | refine own_eq ?_ ?_ | refine sl_eq ?_ | refine b_eq ?_ | (refine i_eq ?_; omega))); done) | rfl)
                · skip
                  have hn : ¬ s < 0 := of_decide_eq_false hb83
                  have e5 : mostI at_ hi = en := by rw [← hen, ← hhi]; exact (if_neg hn).symm
                  have e6 : leastI at_ lo = bg := by rw [← hbg, ← hlo]; exact (if_neg hn).symm
                  refine JoinK.nrm (()) ?_ ?_
                  · trivial
                  · exact Ghost.kp [1, 2, 3, 6, 7, 9, 13, 14, 10, 16, 17, 33, 34, 35] [3] (by simp only [go_sem, hr, hs, hst, eL, eH, e3, e4, e5, e6]; first | ((repeat' (first | with_reducible_and_instances rfl | refine st_eq ?_ ?_ ?_ | refine ret_eq ?_ | refine tup_eq ?_ | refine tm_eq ?_ ?_ | refine arr_eq ?_ | refine cells_eq ?_ | refine val_eq ?_ | refine ls_eq ?_ ?_ | refine own_eq ?_ ?_ | refine sl_eq ?_ | refine b_eq ?_ | (refine i_eq ?_; omega))); done) | rfl)
              · skip
                refine Exec.assocS ?_
                refine Exec.reg ?_
                iterate 3 (refine Run.op (by simp only [go_sem, hr, hs, hst, eL, eH, e3, e4] <;> rfl) (by simp only [go_sem] <;> rfl) ?_)
                refine Run.nil ?_
                refine Exec.cndS (by simp only [go_sem, hr, hs, hst, eL, eH, e3, e4] <;> rfl) (fun hb88 => ?_) (fun hb88 => ?_)
                · skip
                  have hbl : bg = lastI' at_ p := by simpa using hb88
                  have hbn := begin_no at_ p.now s
                  rw [hbg] at hbn
                  have hany : p.any = true ∧ bg = p.last := by
                    unfold lastI' at hbl
                    split at hbl
                    · rename_i h; exact ⟨h, hbl⟩
                    · exact absurd hbl hbn
                  have hcs : pStep at_ p s = ⟨p.all + tt, p.ct + tt - 1, p.now + s, en, true⟩ := by unfold pStep; rw [hlo, hhi, if_neg hc, htt, hbg, hen, if_pos hany]
                  refine Exec.reg ?_
                  refine Run.op (by simp only [go_sem, hr, hs, hst, eL, eH, e3, e4, hcs] <;> rfl) (by simp only [go_sem] <;> rfl) ?_
                  refine Run.op (by simp only [go_sem, hr, hs, hst, eL, eH, e3, e4, hcs]; (try simp (disch := omega) only [IntWalk.i64_in, IntWalk.u64_in, if_neg, if_pos])<;> rfl) (by simp only [go_sem] <;> rfl) ?_
                  refine Run.op (by simp only [go_sem, hr, hs, hst, eL, eH, e3, e4, hcs] <;> rfl) (by simp only [go_sem] <;> rfl) ?_
                  refine Run.nil ?_
                  refine Exec.reg1 ?_
                  iterate 2 (refine Run.op (by simp only [go_sem, hr, hs, hst, eL, eH, e3, e4, hcs] <;> rfl) (by simp only [go_sem] <;> rfl) ?_)
                  refine Run.nil ?_
                  refine BlkK.nrm ?_
                  refine Exec.reg1 ?_
                  refine Run.op (by simp only [go_sem, hr, hs, hst, eL, eH, e3, e4, hcs]; (try simp (disch := omega) only [IntWalk.i64_in, IntWalk.u64_in, if_neg, if_pos])<;> rfl) (by simp only [go_sem] <;> rfl) ?_
                  refine Run.op (by simp only [go_sem, hr, hs, hst, eL, eH, e3, e4, hcs] <;> rfl) (by simp only [go_sem] <;> rfl) ?_
                  refine Run.nil ?_
                  refine ForK.nxt ?_ ?_ ?_
                  · omega
                  · exact Ghost.kp [2, 6, 7, 9, 10, 33, 34, 35] [3] (by simp only [go_sem, hr, hs, hst, eL, eH, e3, e4, hcs]; first | ((repeat' (first | with_reducible_and_instances rfl | refine st_eq ?_ ?_ ?_ | refine ret_eq ?_ | refine tup_eq ?_ | refine tm_eq ?_ ?_ | refine arr_eq ?_ | refine cells_eq ?_ | refine val_eq ?_ | refine ls_eq ?_ ?_ | refine own_eq ?_ ?_ | refine sl_eq ?_ | refine b_eq ?_ | (refine i_eq ?_; omega))); (all_goals (first | omega | (simp [lastI']; try omega)))) | rfl)
                  · trivial
                · skip
                  have hbl : ¬ bg = lastI' at_ p := by simpa using hb88
                  have hany : ¬ (p.any = true ∧ bg = p.last) := fun h => hbl (by unfold lastI'; rw [if_pos h.1]; exact h.2)
                  have hcs : pStep at_ p s = ⟨p.all + tt, p.ct + tt - 0, p.now + s, en, true⟩ := by unfold pStep; rw [hlo, hhi, if_neg hc, htt, hbg, hen, if_neg hany]
                  refine Exec.skipS ?_
                  refine Exec.reg1 ?_
                  iterate 2 (refine Run.op (by simp only [go_sem, hr, hs, hst, eL, eH, e3, e4, hcs, Int.sub_zero] <;> rfl) (by simp only [go_sem] <;> rfl) ?_)
                  refine Run.nil ?_
                  refine BlkK.nrm ?_
                  refine Exec.reg1 ?_
                  refine Run.op (by simp only [go_sem, hr, hs, hst, eL, eH, e3, e4, hcs, Int.sub_zero]; (try simp (disch := omega) only [IntWalk.i64_in, IntWalk.u64_in, if_neg, if_pos])<;> rfl) (by simp only [go_sem] <;> rfl) ?_
                  refine Run.op (by simp only [go_sem, hr, hs, hst, eL, eH, e3, e4, hcs, Int.sub_zero] <;> rfl) (by simp only [go_sem] <;> rfl) ?_
                  refine Run.nil ?_
                  refine ForK.nxt ?_ ?_ ?_
                  · omega
                  · exact Ghost.kp [2, 6, 7, 9, 10, 33, 34, 35] [3] (by simp only [go_sem, hr, hs, hst, eL, eH, e3, e4, hcs, Int.sub_zero]; first | ((repeat' (first | with_reducible_and_instances rfl | refine st_eq ?_ ?_ ?_ | refine ret_eq ?_ | refine tup_eq ?_ | refine tm_eq ?_ ?_ | refine arr_eq ?_ | refine cells_eq ?_ | refine val_eq ?_ | refine ls_eq ?_ ?_ | refine own_eq ?_ ?_ | refine sl_eq ?_ | refine b_eq ?_ | (refine i_eq ?_; omega))); (all_goals (first | omega | (simp [lastI']; try omega)))) | rfl)
                  · trivial
        · skip
          have hke : k = l.length := by have := ge_of_dec hb36; omega
          subst hke
          refine Exec.exitS ?_
          refine ForK.ext ?_
          refine BlkK.hit ?_
          refine Exec.reg ?_
          iterate 5 (refine Run.op (by simp only [go_sem, hr, List.take_length] <;> rfl) (by simp only [go_sem] <;> rfl) ?_)
          refine Run.nil ?_
          exact Ends.fin [] (rs := [.tmp 6, .tmp 7, .tmp 8]) rfl (by simp only [go_sem, hr, List.take_length] <;> rfl) (by simp only [go_sem, hr, List.take_length] <;> first | rfl | ((repeat' (first | with_reducible_and_instances rfl | refine st_eq ?_ ?_ ?_ | refine ret_eq ?_ | refine tup_eq ?_ | refine tm_eq ?_ ?_ | refine arr_eq ?_ | refine cells_eq ?_ | refine val_eq ?_ | refine ls_eq ?_ ?_ | refine own_eq ?_ ?_ | refine sl_eq ?_ | refine b_eq ?_ | (refine i_eq ?_; omega))); done))

end Go.Mw
namespace Go.Mw
open Go.Proofs
open Go.Dr
set_option maxRecDepth 20000 in
set_option maxHeartbeats 8000000 in
/-- meterworks/meterworksref02.Pulses -/
theorem c_meterworksref02_Pulses (r : Reg) (l : List Int) (at_ : Int) (hl : l.length ≤ 1000) : Contract Try.prog 15 [regV r, .leaf (.d (intsD l)), .int at_] (tupI [(pulsesR r l at_).1, (pulsesR r l at_).2.1, (pulsesR r l at_).2.2]) [] := by
  refine con_of follows_mixed Try.func15 rfl (by simp only [List.length_cons, List.length_nil, Try.ntmps15]; omega) (by kernel_rfl) rfl ?_
  refine Exec.reg ?_
  iterate 4 (refine Run.op (by simp only [go_sem] <;> rfl) (by simp only [go_sem] <;> rfl) ?_)
  refine Run.nil ?_
  refine Exec.reg ?_
  iterate 2 (refine Run.op (by simp only [go_sem] <;> rfl) (by simp only [go_sem] <;> rfl) ?_)
  refine Run.cal (c_meterworksref02_errors r l hl) (by simp only [go_sem]) (by simp only [go_sem] <;> rfl) (by exact ⟨by first | exact WkR.pure rfl | exact WkR.nil _ | exact WkR.int (by first | omega | (simp; done) | (simp; omega)), by first | exact WkR.pure rfl | exact WkR.nil _ | exact WkR.int (by first | omega | (simp; done) | (simp; omega)), trivial⟩) (fr0) (by simp only [go_sem] <;> rfl) ?_
  refine Run.op (by simp only [go_sem] <;> rfl) (by simp only [go_sem] <;> rfl) ?_
  refine Run.nil ?_
  refine Exec.assocS ?_
  refine Exec.reg ?_
  iterate 2 (refine Run.op (by simp only [go_sem] <;> rfl) (by simp only [go_sem] <;> rfl) ?_)
  refine Run.nil ?_
  refine Exec.cndS (by simp only [go_sem] <;> rfl) (fun hb29 => ?_) (fun hb29 => ?_)
  · skip
    have he : ¬ errD r l = 0 := by simpa using hb29
    have hr : pulsesR r l at_ = (0, 0, errD r l) := if_neg he
    refine Exec.assocS ?_
    refine Exec.reg ?_
    iterate 4 (refine Run.op (by simp only [go_sem, hr] <;> rfl) (by simp only [go_sem] <;> rfl) ?_)
    refine Run.nil ?_
    refine Exec.retS ?_
    exact Ends.fin [] (rs := [.tmp 6, .tmp 7, .tmp 8]) rfl (by simp only [go_sem, hr] <;> rfl) (by simp only [go_sem, hr] <;> first | rfl | ((repeat' (first | with_reducible_and_instances rfl | refine st_eq ?_ ?_ ?_ | refine ret_eq ?_ | refine tup_eq ?_ | refine tm_eq ?_ ?_ | refine arr_eq ?_ | refine cells_eq ?_ | refine val_eq ?_ | refine ls_eq ?_ ?_ | refine own_eq ?_ ?_ | refine sl_eq ?_ | refine b_eq ?_ | (refine i_eq ?_; omega))); done))
  · skip
    have he : errD r l = 0 := by simpa using hb29
    obtain ⟨hreg, hl32, hlb⟩ := err_zero he
    have hq := reg_iff.1 hreg
    have htb := turn_bnd hq.1.2
    refine Exec.skipS ?_
    refine Exec.assocS ?_
    refine Exec.reg ?_
    refine Run.op (by simp only [go_sem] <;> rfl) (by simp only [go_sem] <;> rfl) ?_
    refine Run.cal (c_meterworksref02_in _ _ _) (by simp only [go_sem]) (by simp only [go_sem] <;> rfl) (by exact ⟨by first | exact WkR.pure rfl | exact WkR.nil _ | exact WkR.int (by first | omega | (simp; done) | (simp; omega)), by first | exact WkR.pure rfl | exact WkR.nil _ | exact WkR.int (by first | omega | (simp; done) | (simp; omega)), by first | exact WkR.pure rfl | exact WkR.nil _ | exact WkR.int (by first | omega | (simp; done) | (simp; omega)), trivial⟩) (fr0) (by simp only [go_sem] <;> rfl) ?_
    refine Run.op (by simp only [go_sem] <;> rfl) (by simp only [go_sem] <;> rfl) ?_
    refine Run.nil ?_
    refine Exec.cndS (by simp only [go_sem] <;> rfl) (fun hb33 => ?_) (fun hb33 => ?_)
    · skip
      have hin : inD at_ 0 9999 = false := by simpa using hb33
      have hr : pulsesR r l at_ = (0, 0, 2) := by unfold pulsesR; rw [if_pos he, if_neg (by simp [hin])]
      refine Exec.assocS ?_
      refine Exec.reg ?_
      iterate 3 (refine Run.op (by simp only [go_sem, hr] <;> rfl) (by simp only [go_sem] <;> rfl) ?_)
      refine Run.nil ?_
      refine Exec.retS ?_
      exact Ends.fin [] (rs := [.tmp 6, .tmp 7, .tmp 8]) rfl (by simp only [go_sem, hr] <;> rfl) (by simp only [go_sem, hr] <;> first | rfl | ((repeat' (first | with_reducible_and_instances rfl | refine st_eq ?_ ?_ ?_ | refine ret_eq ?_ | refine tup_eq ?_ | refine tm_eq ?_ ?_ | refine arr_eq ?_ | refine cells_eq ?_ | refine val_eq ?_ | refine ls_eq ?_ ?_ | refine own_eq ?_ ?_ | refine sl_eq ?_ | refine b_eq ?_ | (refine i_eq ?_; omega))); done))
    · skip
      have hin : inD at_ 0 9999 = true := by simpa using hb33
      have hat := inD_iff.1 hin
      have hr : pulsesR r l at_ = ((pS at_ r.start l).ct, (pS at_ r.start l).all, 0) := by unfold pulsesR; rw [if_pos he, if_pos hin]
      refine Exec.skipS ?_
      refine Exec.opk 7 ?_
      refine OpenK.op (by simp only [go_sem, hr] <;> rfl) (by simp only [go_sem] <;> rfl) (by simp only [go_sem] <;> rfl) ?_
      refine OpenK.op (by simp only [go_sem, hr] <;> rfl) (by simp only [go_sem] <;> rfl) (by simp only [go_sem] <;> rfl) ?_
      refine OpenK.op (by simp only [go_sem, hr] <;> rfl) (by simp only [go_sem] <;> rfl) (by simp only [go_sem] <;> rfl) ?_
      refine OpenK.op (by simp only [go_sem, hr] <;> rfl) (by simp only [go_sem] <;> rfl) (by simp only [go_sem] <;> rfl) ?_
      refine OpenK.op (by simp only [go_sem, hr] <;> rfl) (by simp only [go_sem] <;> rfl) (by simp only [go_sem] <;> rfl) ?_
      refine OpenK.nil (OpenE.fin (by decide +kernel) (by decide +kernel) ?_)
      refine Exec.reg ?_
      iterate 2 (refine Run.op (by simp only [go_sem, hr] <;> rfl) (by simp only [go_sem] <;> rfl) ?_)
      refine Run.nil ?_
      refine Exec.assocS ?_
      refine Exec.reg ?_
      refine Run.op (by simp only [go_sem, hr] <;> rfl) (by simp only [go_sem] <;> rfl) ?_
      refine Run.nil ?_
      refine Exec.blk ?_
      refine Exec.forA [1, 2, 10, 11, 12, 13, 14, 15] [3] (l.length) (fun k => [.slot 15 (.int k), .slot 10 (.int (pS at_ r.start (l.take k)).all), .slot 11 (.int ((pS at_ r.start (l.take k)).all - (pS at_ r.start (l.take k)).ct)), .slot 12 (.int (pS at_ r.start (l.take k)).now), .slot 13 (.int (pS at_ r.start (l.take k)).last), .slot 14 (.bool (pS at_ r.start (l.take k)).any)]) (fun _ => True) (fun k => by simp only [go_sem] <;> rfl) (by simp only [go_sem, List.take_zero, pS_nil, Int.natCast_zero, Int.sub_self] <;> rfl) ?_ (fun k hk hX => ?_)
      · trivial
      · skip
        refine Exec.assocS ?_
        refine Exec.reg ?_
        iterate 4 (refine Run.op (by simp only [go_sem, hr] <;> rfl) (by simp only [go_sem] <;> rfl) ?_)
        refine Run.nil ?_
        refine Exec.cndS (by simp only [go_sem, hr] <;> rfl) (fun hb39 => ?_) (fun hb39 => ?_)
        · skip
          have hlt := lt_of_dec hb39
          obtain ⟨s, hs⟩ := elem_of hb39
          have hsb := hlb s (List.mem_of_getElem? hs)
          have hst := pS_snocK (at_ := at_) (start := r.start) hs
          have hpb := pb_all (start := r.start) (at_ := at_) hlb k (by omega)
          obtain ⟨p, hp⟩ : ∃ p, (pS at_ r.start (l.take k)) = p := ⟨_, rfl⟩
          rw [hp] at hst hpb
          obtain ⟨q1, q2, q3, q4, q5⟩ := hpb
          simp only [hp]
          obtain ⟨lo, hlo⟩ : ∃ x, lowI p.now s = x := ⟨_, rfl⟩
          obtain ⟨hi, hhi⟩ : ∃ x, highI p.now s = x := ⟨_, rfl⟩
          have hlob : -90000000000000 ≤ lo ∧ lo ≤ 90000000000000 := by rw [← hlo]; unfold lowI; split <;> omega
          have hhib : -100000000000000 ≤ hi ∧ hi ≤ 100000000000000 := by rw [← hhi]; unfold highI; split <;> omega
          have bL := least_ge at_ lo
          have bH := most_le at_ hi
          have bL2 : leastI at_ lo ≤ lo + 10000 := by unfold leastI; omega
          have bH2 : hi - 10000 ≤ mostI at_ hi := by unfold mostI; omega
          have elo : lo - 1 + 1 = lo := by omega
          have eL : lo + (at_ - (lo - 1) - 1) % 10000 = leastI at_ lo := by unfold leastI; omega
          refine Exec.skipS ?_
          refine Exec.blk ?_
          refine Exec.opk 11 ?_
          refine OpenK.op (by simp only [go_sem, hr, hs, hst, elo, eL] <;> rfl) (by simp only [go_sem] <;> rfl) (by simp only [go_sem] <;> rfl) ?_
          refine OpenK.op (by simp only [go_sem, hr, hs, hst, elo, eL] <;> rfl) (by simp only [go_sem] <;> rfl) (by simp only [go_sem] <;> rfl) ?_
          refine OpenK.op (by simp only [go_sem, hr, hs, hst, elo, eL] <;> rfl) (by simp only [go_sem] <;> rfl) (by simp only [go_sem] <;> rfl) ?_
          refine OpenK.op (by simp only [go_sem, hr, hs, hst, elo, eL] <;> rfl) (by simp only [go_sem] <;> rfl) (by simp only [go_sem] <;> rfl) ?_
          refine OpenK.op (by simp only [go_sem, hr, hs, hst, elo, eL]; (try simp (disch := omega) only [if_pos]); (try simp only [go_sem, hr, hs, hst, elo, eL])<;> rfl) (by simp only [go_sem] <;> rfl) (by simp only [go_sem] <;> rfl) ?_
          refine OpenK.op (by simp only [go_sem, hr, hs, hst, elo, eL] <;> rfl) (by simp only [go_sem] <;> rfl) (by simp only [go_sem] <;> rfl) ?_
          refine OpenK.op (by simp only [go_sem, hr, hs, hst, elo, eL]; (try simp (disch := omega) only [IntWalk.i64_in, IntWalk.u64_in, if_neg, if_pos])<;> rfl) (by simp only [go_sem] <;> rfl) (by simp only [go_sem] <;> rfl) ?_
          refine OpenK.op (by simp only [go_sem, hr, hs, hst, elo, eL] <;> rfl) (by simp only [go_sem] <;> rfl) (by simp only [go_sem] <;> rfl) ?_
          refine OpenK.op (by simp only [go_sem, hr, hs, hst, elo, eL] <;> rfl) (by simp only [go_sem] <;> rfl) (by simp only [go_sem] <;> rfl) ?_
          refine OpenK.nil (OpenE.fin (by decide +kernel) (by decide +kernel) ?_)
          refine Exec.reg ?_
          iterate 2 (refine Run.op (by simp only [go_sem, hr, hs, hst, elo, eL] <;> rfl) (by simp only [go_sem] <;> rfl) ?_)
          refine Run.nil ?_
          refine Exec.reg ?_
          iterate 4 (refine Run.op (by simp only [go_sem, hr, hs, hst, elo, eL] <;> rfl) (by simp only [go_sem] <;> rfl) ?_)
          refine Run.nil ?_
          refine Exec.assocS ?_
          refine Exec.reg ?_
          iterate 3 (refine Run.op (by simp only [go_sem, hr, hs, hst, elo, eL] <;> rfl) (by simp only [go_sem] <;> rfl) ?_)
          refine Run.nil ?_
          refine Exec.joinA [1, 2, 3, 10, 11, 12, 13, 14, 15, 16, 17, 18, 19] [3] (fun (u1 : Unit) => [.slot 18 (.int (lo - 1)), .slot 19 (.int hi)]) (fun (u1 : Unit) => True) (fun u1 => by simp only [go_sem] <;> rfl) ?_ (fun u1 hj => ?_)
          · skip
            refine Exec.cnd (by simp only [go_sem, hr, hs, hst, elo, eL] <;> rfl) (fun hb54 => ?_) (fun hb54 => ?_)
            · skip
              have hn : s < 0 := by have := of_decide_eq_true hb54; omega
              have e1 : p.now + s - 1 = lo - 1 := by rw [← hlo]; unfold lowI; rw [if_pos hn]
              have e2 : p.now - 1 = hi := by rw [← hhi]; exact (if_pos hn).symm
              refine Exec.reg ?_
              refine Run.op (by simp only [go_sem, hr, hs, hst, elo, eL, e1, e2] <;> rfl) (by simp only [go_sem] <;> rfl) ?_
              refine Run.op (by simp only [go_sem, hr, hs, hst, elo, eL, e1, e2]; (try simp (disch := omega) only [IntWalk.i64_in, IntWalk.u64_in, if_neg, if_pos])<;> rfl) (by simp only [go_sem] <;> rfl) ?_
              refine Run.op (by simp only [go_sem, hr, hs, hst, elo, eL, e1, e2] <;> rfl) (by simp only [go_sem] <;> rfl) ?_
              refine Run.nil ?_
              refine Exec.reg1 ?_
              refine Run.op (by simp only [go_sem, hr, hs, hst, elo, eL, e1, e2] <;> rfl) (by simp only [go_sem] <;> rfl) ?_
              refine Run.op (by simp only [go_sem, hr, hs, hst, elo, eL, e1, e2]; (try simp (disch := omega) only [IntWalk.i64_in, IntWalk.u64_in, if_neg, if_pos])<;> rfl) (by simp only [go_sem] <;> rfl) ?_
              refine Run.op (by simp only [go_sem, hr, hs, hst, elo, eL, e1, e2] <;> rfl) (by simp only [go_sem] <;> rfl) ?_
              refine Run.nil ?_
              refine JoinK.nrm (()) ?_ ?_
              · trivial
              · exact Ghost.kp [1, 2, 3, 10, 11, 12, 13, 14, 15, 16, 17, 18, 19] [3] (by simp only [go_sem, hr, hs, hst, elo, eL, e1, e2]; first | ((repeat' (first | with_reducible_and_instances rfl | refine st_eq ?_ ?_ ?_ | refine ret_eq ?_ | refine tup_eq ?_ | refine tm_eq ?_ ?_ | refine arr_eq ?_ | refine cells_eq ?_ | refine val_eq ?_ | refine ls_eq ?_ ?_ | refine own_eq ?_ ?_ | refine sl_eq ?_ | refine b_eq ?_ | (refine i_eq ?_; omega))); (all_goals omega)) | rfl)
            · skip
              have hn : ¬ s < 0 := by have := of_decide_eq_false hb54; omega
              have e1 : p.now = lo - 1 := by rw [← hlo]; unfold lowI; rw [if_neg hn]; omega
              have e2 : p.now + s = hi := by rw [← hhi]; exact (if_neg hn).symm
              refine JoinK.nrm (()) ?_ ?_
              · trivial
              · exact Ghost.kp [1, 2, 3, 10, 11, 12, 13, 14, 15, 16, 17, 18, 19] [3] (by simp only [go_sem, hr, hs, hst, elo, eL]; first | ((repeat' (first | with_reducible_and_instances rfl | refine st_eq ?_ ?_ ?_ | refine ret_eq ?_ | refine tup_eq ?_ | refine tm_eq ?_ ?_ | refine arr_eq ?_ | refine cells_eq ?_ | refine val_eq ?_ | refine ls_eq ?_ ?_ | refine own_eq ?_ ?_ | refine sl_eq ?_ | refine b_eq ?_ | (refine i_eq ?_; omega))); (all_goals omega)) | rfl)
          · skip
            refine Exec.reg ?_
            iterate 3 (refine Run.op (by simp only [go_sem, hr, hs, hst, elo, eL] <;> rfl) (by simp only [go_sem] <;> rfl) ?_)
            refine Run.cal (c_meterworksref02_many (lo - 1) hi at_ (by omega) (by omega) hat) (by simp only [go_sem]) (by simp only [go_sem, hr, hs, hst, elo, eL] <;> rfl) (by exact ⟨by first | exact WkR.pure rfl | exact WkR.nil _ | exact WkR.int (by first | omega | (simp; done) | (simp; omega)), by first | exact WkR.pure rfl | exact WkR.nil _ | exact WkR.int (by first | omega | (simp; done) | (simp; omega)), by first | exact WkR.pure rfl | exact WkR.nil _ | exact WkR.int (by first | omega | (simp; done) | (simp; omega)), trivial⟩) (fr0) (by simp only [go_sem, hr, hs, hst, elo, eL] <;> rfl) ?_
            refine Run.op (by simp only [go_sem, hr, hs, hst, elo, eL] <;> rfl) (by simp only [go_sem] <;> rfl) ?_
            refine Run.nil ?_
            refine Exec.assocS ?_
            refine Exec.reg ?_
            iterate 2 (refine Run.op (by simp only [go_sem, hr, hs, hst, elo, eL] <;> rfl) (by simp only [go_sem] <;> rfl) ?_)
            refine Run.nil ?_
            refine Exec.cndS (by simp only [go_sem, hr, hs, hst, elo, eL] <;> rfl) (fun hb64 => ?_) (fun hb64 => ?_)
            · skip
              have hnd : manyI (lo - 1) hi at_ = if leastI at_ lo > hi then 0 else 1 + (hi - leastI at_ lo) / 10000 := by unfold manyI; rw [elo]
              have hdn : ¬ leastI at_ lo > hi → 0 ≤ (hi - leastI at_ lo) / 10000 := fun h => Int.ediv_nonneg (by omega) (by omega)
              have hm0 : manyI (lo - 1) hi at_ = 0 := by simpa using hb64
              have hc0 : leastI at_ lo > hi := by
                rw [hnd] at hm0
                split at hm0
                · assumption
                · rename_i h; have := hdn h; omega
              have hc : leastI at_ lo > mostI at_ hi := by omega
              have hcs : pStep at_ p s = { p with now := p.now + s } := by unfold pStep; rw [hlo, hhi, if_pos hc]
              refine Exec.exitS ?_
              refine BlkK.hit ?_
              refine Exec.reg1 ?_
              refine Run.op (by simp only [go_sem, hr, hs, hst, elo, eL, hcs] <;> rfl) (by simp only [go_sem] <;> rfl) ?_
              refine Run.op (by simp only [go_sem, hr, hs, hst, elo, eL, hcs]; (try simp (disch := omega) only [IntWalk.i64_in, IntWalk.u64_in, if_neg, if_pos])<;> rfl) (by simp only [go_sem] <;> rfl) ?_
              refine Run.op (by simp only [go_sem, hr, hs, hst, elo, eL, hcs] <;> rfl) (by simp only [go_sem] <;> rfl) ?_
              refine Run.nil ?_
              refine ForK.nxt ?_ ?_ ?_
              · omega
              · exact Ghost.kp [1, 2, 10, 11, 12, 13, 14, 15] [3] (by simp only [go_sem, hr, hs, hst, elo, eL, hcs]; first | ((repeat' (first | with_reducible_and_instances rfl | refine st_eq ?_ ?_ ?_ | refine ret_eq ?_ | refine tup_eq ?_ | refine tm_eq ?_ ?_ | refine arr_eq ?_ | refine cells_eq ?_ | refine val_eq ?_ | refine ls_eq ?_ ?_ | refine own_eq ?_ ?_ | refine sl_eq ?_ | refine b_eq ?_ | (refine i_eq ?_; omega))); (all_goals (first | omega | (simp; try omega)))) | rfl)
              · trivial
            · skip
              have hnd : manyI (lo - 1) hi at_ = if leastI at_ lo > hi then 0 else 1 + (hi - leastI at_ lo) / 10000 := by unfold manyI; rw [elo]
              have hdn : ¬ leastI at_ lo > hi → 0 ≤ (hi - leastI at_ lo) / 10000 := fun h => Int.ediv_nonneg (by omega) (by omega)
              have hm0 : ¬ manyI (lo - 1) hi at_ = 0 := by simpa using hb64
              have hc0 : ¬ leastI at_ lo > hi := fun h => hm0 (by rw [hnd, if_pos h])
              have hll := least_le (at_ := at_) (L := lo) (H := hi) (by omega)
              have hc : ¬ leastI at_ lo > mostI at_ hi := by omega
              have htb2 := times_bnd (at_ := at_) (now := p.now) (n := s) hsb (by rw [hlo, hhi]; exact hc)
              have htt0 : timesI at_ p.now s = 1 + (hi - leastI at_ lo) / 10000 := by
                unfold timesI; rw [hlo, hhi]
                have := hdn hc0
                omega
              have hmt : manyI (lo - 1) hi at_ = timesI at_ p.now s := by rw [hnd, if_neg hc0, htt0]
              have e2 : leastI at_ lo + 10000 * (timesI at_ p.now s - 1) = mostI at_ hi := by rw [htt0]; omega
              obtain ⟨tt, htt⟩ : ∃ x, timesI at_ p.now s = x := ⟨_, rfl⟩
              rw [htt] at e2 htb2 hmt
              obtain ⟨bg, hbg⟩ : ∃ x, beginI at_ p.now s = x := ⟨_, rfl⟩
              obtain ⟨en, hen⟩ : ∃ x, endI at_ p.now s = x := ⟨_, rfl⟩
              refine Exec.skipS ?_
              refine Exec.reg ?_
              refine Run.op (by simp only [go_sem, hr, hs, hst, elo, eL, hmt, e2] <;> rfl) (by simp only [go_sem] <;> rfl) ?_
              refine Run.op (by simp only [go_sem, hr, hs, hst, elo, eL, hmt, e2]; (try simp (disch := omega) only [IntWalk.i64_in, IntWalk.u64_in, if_neg, if_pos])<;> rfl) (by simp only [go_sem] <;> rfl) ?_
              iterate 2 (refine Run.op (by simp only [go_sem, hr, hs, hst, elo, eL, hmt, e2] <;> rfl) (by simp only [go_sem] <;> rfl) ?_)
              refine Run.op (by simp only [go_sem, hr, hs, hst, elo, eL, hmt, e2]; (try simp (disch := omega) only [IntWalk.i64_in, IntWalk.u64_in, if_neg, if_pos])<;> rfl) (by simp only [go_sem] <;> rfl) ?_
              refine Run.op (by simp only [go_sem, hr, hs, hst, elo, eL, hmt, e2]; (try simp (disch := omega) only [IntWalk.i64_in, IntWalk.u64_in, if_neg, if_pos])<;> rfl) (by simp only [go_sem] <;> rfl) ?_
              refine Run.cal (c_meterworksref02_modulo (at_ - (lo - 1) - 1) 10000 (by omega) (by omega)) (by simp only [go_sem]) (by simp only [go_sem, hr, hs, hst, elo, eL, hmt, e2] <;> rfl) (by exact ⟨by first | exact WkR.pure rfl | exact WkR.nil _ | exact WkR.int (by first | omega | (simp; done) | (simp; omega)), by first | exact WkR.pure rfl | exact WkR.nil _ | exact WkR.int (by first | omega | (simp; done) | (simp; omega)), trivial⟩) (fr0) (by simp only [go_sem, hr, hs, hst, elo, eL, hmt, e2] <;> rfl) ?_
              refine Run.op (by simp only [go_sem, hr, hs, hst, elo, eL, hmt, e2]; (try simp (disch := omega) only [IntWalk.i64_in, IntWalk.u64_in, if_neg, if_pos])<;> rfl) (by simp only [go_sem] <;> rfl) ?_
              refine Run.op (by simp only [go_sem, hr, hs, hst, elo, eL, hmt, e2] <;> rfl) (by simp only [go_sem] <;> rfl) ?_
              refine Run.nil ?_
              refine Exec.reg ?_
              iterate 2 (refine Run.op (by simp only [go_sem, hr, hs, hst, elo, eL, hmt, e2] <;> rfl) (by simp only [go_sem] <;> rfl) ?_)
              refine Run.op (by simp only [go_sem, hr, hs, hst, elo, eL, hmt, e2]; (try simp (disch := omega) only [IntWalk.i64_in, IntWalk.u64_in, if_neg, if_pos])<;> rfl) (by simp only [go_sem] <;> rfl) ?_
              refine Run.op (by simp only [go_sem, hr, hs, hst, elo, eL, hmt, e2]; (try simp (disch := omega) only [IntWalk.i64_in, IntWalk.u64_in, if_neg, if_pos])<;> rfl) (by simp only [go_sem] <;> rfl) ?_
              refine Run.op (by simp only [go_sem, hr, hs, hst, elo, eL, hmt, e2]; (try simp (disch := omega) only [IntWalk.i64_in, IntWalk.u64_in, if_neg, if_pos])<;> rfl) (by simp only [go_sem] <;> rfl) ?_
              refine Run.op (by simp only [go_sem, hr, hs, hst, elo, eL, hmt, e2] <;> rfl) (by simp only [go_sem] <;> rfl) ?_
              refine Run.nil ?_
              refine Exec.reg ?_
              iterate 4 (refine Run.op (by simp only [go_sem, hr, hs, hst, elo, eL, hmt, e2] <;> rfl) (by simp only [go_sem] <;> rfl) ?_)
              refine Run.nil ?_
              refine Exec.assocS ?_
              refine Exec.reg ?_
              iterate 3 (refine Run.op (by simp only [go_sem, hr, hs, hst, elo, eL, hmt, e2] <;> rfl) (by simp only [go_sem] <;> rfl) ?_)
              refine Run.nil ?_
              refine Exec.joinA [1, 2, 3, 10, 11, 12, 13, 14, 15, 20, 23, 24] [3] (fun (u2 : Unit) => [.slot 23 (.int bg), .slot 24 (.int en)]) (fun (u2 : Unit) => True) (fun u2 => by simp only [go_sem] <;> rfl) ?_ (fun u2 hj => ?_)
              · skip
                refine Exec.cnd (by simp only [go_sem, hr, hs, hst, elo, eL, hmt, e2] <;> rfl) (fun hb82 => ?_) (fun hb82 => ?_)
                · skip
                  have hn2 : s < 0 := by have := of_decide_eq_true hb82; omega
                  have e5 : mostI at_ hi = bg := by rw [← hbg, ← hhi]; exact (if_pos hn2).symm
                  have e6 : leastI at_ lo = en := by rw [← hen, ← hlo]; exact (if_pos hn2).symm
                  refine Exec.reg ?_
                  iterate 2 (refine Run.op (by simp only [go_sem, hr, hs, hst, elo, eL, hmt, e2, e5, e6] <;> rfl) (by simp only [go_sem] <;> rfl) ?_)
                  refine Run.nil ?_
                  refine Exec.reg1 ?_
                  iterate 2 (refine Run.op (by simp only [go_sem, hr, hs, hst, elo, eL, hmt, e2, e5, e6] <;> rfl) (by simp only [go_sem] <;> rfl) ?_)
                  refine Run.nil ?_
                  refine JoinK.nrm (()) ?_ ?_
                  · trivial
                  · exact Ghost.kp [1, 2, 3, 10, 11, 12, 13, 14, 15, 20, 23, 24] [3] (by simp only [go_sem, hr, hs, hst, elo, eL, hmt, e2, e5, e6]; first | ((repeat' (first | with_reducible_and_instances rfl | refine st_eq ?_ ?_ ?_ | refine ret_eq ?_ | refine tup_eq ?_ | refine tm_eq ?_ ?_ | refine arr_eq ?_ | refine cells_eq ?_ | refine val_eq ?_ | refine ls_eq ?_ ?_ | refine own_eq ?_ ?_ | refine sl_eq ?_ | refine b_eq ?_ | (refine i_eq ?_; omega))); done) | rfl)
                · skip
                  have hn2 : ¬ s < 0 := by have := of_decide_eq_false hb82; omega
                  have e5 : mostI at_ hi = en := by rw [← hen, ← hhi]; exact (if_neg hn2).symm
                  have e6 : leastI at_ lo = bg := by rw [← hbg, ← hlo]; exact (if_neg hn2).symm
                  refine JoinK.nrm (()) ?_ ?_
                  · trivial
                  · exact Ghost.kp [1, 2, 3, 10, 11, 12, 13, 14, 15, 20, 23, 24] [3] (by simp only [go_sem, hr, hs, hst, elo, eL, hmt, e2, e5, e6]; first | ((repeat' (first | with_reducible_and_instances rfl | refine st_eq ?_ ?_ ?_ | refine ret_eq ?_ | refine tup_eq ?_ | refine tm_eq ?_ ?_ | refine arr_eq ?_ | refine cells_eq ?_ | refine val_eq ?_ | refine ls_eq ?_ ?_ | refine own_eq ?_ ?_ | refine sl_eq ?_ | refine b_eq ?_ | (refine i_eq ?_; omega))); done) | rfl)
              · skip
                refine Exec.assocS ?_
                refine Exec.reg ?_
                iterate 2 (refine Run.op (by simp only [go_sem, hr, hs, hst, elo, eL, hmt, e2] <;> rfl) (by simp only [go_sem] <;> rfl) ?_)
                refine Run.gop (by simp only [go_sem] <;> rfl) (by simp only [go_sem, hr, hs, hst, elo, eL, hmt, e2] <;> rfl) (by simp only [go_sem] <;> rfl) ?_
                refine Run.gop (by simp only [go_sem] <;> rfl) (by simp only [go_sem, hr, hs, hst, elo, eL, hmt, e2] <;> rfl) (by simp only [go_sem] <;> rfl) ?_
                refine Run.gop (by simp only [go_sem] <;> rfl) (by simp only [go_sem, hr, hs, hst, elo, eL, hmt, e2] <;> rfl) (by simp only [go_sem] <;> rfl) ?_
                refine Run.op (by simp only [go_sem, hr, hs, hst, elo, eL, hmt, e2] <;> rfl) (by simp only [go_sem] <;> rfl) ?_
                refine Run.nil ?_
                refine Exec.cndS (by simp only [go_sem, hr, hs, hst, elo, eL, hmt, e2] <;> rfl) (fun hb90 => ?_) (fun hb90 => ?_)
                · skip
                  have hany : p.any = true ∧ bg = p.last := by simpa using hb90
                  have hcs : pStep at_ p s = ⟨p.all + tt, p.ct + tt - 1, p.now + s, en, true⟩ := by unfold pStep; rw [hlo, hhi, if_neg hc, htt, hbg, hen, if_pos hany]
                  refine Exec.reg ?_
                  refine Run.op (by simp only [go_sem, hr, hs, hst, elo, eL, hmt, e2, hcs] <;> rfl) (by simp only [go_sem] <;> rfl) ?_
                  refine Run.op (by simp only [go_sem, hr, hs, hst, elo, eL, hmt, e2, hcs]; (try simp (disch := omega) only [IntWalk.i64_in, IntWalk.u64_in, if_neg, if_pos])<;> rfl) (by simp only [go_sem] <;> rfl) ?_
                  refine Run.op (by simp only [go_sem, hr, hs, hst, elo, eL, hmt, e2, hcs] <;> rfl) (by simp only [go_sem] <;> rfl) ?_
                  refine Run.nil ?_
                  refine Exec.reg ?_
                  iterate 2 (refine Run.op (by simp only [go_sem, hr, hs, hst, elo, eL, hmt, e2, hcs] <;> rfl) (by simp only [go_sem] <;> rfl) ?_)
                  refine Run.op (by simp only [go_sem, hr, hs, hst, elo, eL, hmt, e2, hcs]; (try simp (disch := omega) only [IntWalk.i64_in, IntWalk.u64_in, if_neg, if_pos])<;> rfl) (by simp only [go_sem] <;> rfl) ?_
                  refine Run.op (by simp only [go_sem, hr, hs, hst, elo, eL, hmt, e2, hcs] <;> rfl) (by simp only [go_sem] <;> rfl) ?_
                  refine Run.nil ?_
                  refine Exec.reg ?_
                  iterate 2 (refine Run.op (by simp only [go_sem, hr, hs, hst, elo, eL, hmt, e2, hcs] <;> rfl) (by simp only [go_sem] <;> rfl) ?_)
                  refine Run.nil ?_
                  refine Exec.reg1 ?_
                  refine Run.op (by simp only [go_sem, hr, hs, hst, elo, eL, hmt, e2, hcs] <;> rfl) (by simp only [go_sem] <;> rfl) ?_
                  refine Run.nil ?_
                  refine BlkK.nrm ?_
                  refine Exec.reg1 ?_
                  refine Run.op (by simp only [go_sem, hr, hs, hst, elo, eL, hmt, e2, hcs] <;> rfl) (by simp only [go_sem] <;> rfl) ?_
                  refine Run.op (by simp only [go_sem, hr, hs, hst, elo, eL, hmt, e2, hcs]; (try simp (disch := omega) only [IntWalk.i64_in, IntWalk.u64_in, if_neg, if_pos])<;> rfl) (by simp only [go_sem] <;> rfl) ?_
                  refine Run.op (by simp only [go_sem, hr, hs, hst, elo, eL, hmt, e2, hcs] <;> rfl) (by simp only [go_sem] <;> rfl) ?_
                  refine Run.nil ?_
                  refine ForK.nxt ?_ ?_ ?_
                  · omega
                  · exact Ghost.kp [1, 2, 10, 11, 12, 13, 14, 15] [3] (by simp only [go_sem, hr, hs, hst, elo, eL, hmt, e2, hcs]; first | ((repeat' (first | with_reducible_and_instances rfl | refine st_eq ?_ ?_ ?_ | refine ret_eq ?_ | refine tup_eq ?_ | refine tm_eq ?_ ?_ | refine arr_eq ?_ | refine cells_eq ?_ | refine val_eq ?_ | refine ls_eq ?_ ?_ | refine own_eq ?_ ?_ | refine sl_eq ?_ | refine b_eq ?_ | (refine i_eq ?_; omega))); (all_goals (first | omega | (simp; try omega)))) | rfl)
                  · trivial
                · skip
                  have hany : ¬ (p.any = true ∧ bg = p.last) := by simpa using hb90
                  have hcs : pStep at_ p s = ⟨p.all + tt, p.ct + tt - 0, p.now + s, en, true⟩ := by unfold pStep; rw [hlo, hhi, if_neg hc, htt, hbg, hen, if_neg hany]
                  refine Exec.skipS ?_
                  refine Exec.reg ?_
                  iterate 2 (refine Run.op (by simp only [go_sem, hr, hs, hst, elo, eL, hmt, e2, hcs, Int.sub_zero] <;> rfl) (by simp only [go_sem] <;> rfl) ?_)
                  refine Run.op (by simp only [go_sem, hr, hs, hst, elo, eL, hmt, e2, hcs, Int.sub_zero]; (try simp (disch := omega) only [IntWalk.i64_in, IntWalk.u64_in, if_neg, if_pos])<;> rfl) (by simp only [go_sem] <;> rfl) ?_
                  refine Run.op (by simp only [go_sem, hr, hs, hst, elo, eL, hmt, e2, hcs, Int.sub_zero] <;> rfl) (by simp only [go_sem] <;> rfl) ?_
                  refine Run.nil ?_
                  refine Exec.reg ?_
                  iterate 2 (refine Run.op (by simp only [go_sem, hr, hs, hst, elo, eL, hmt, e2, hcs, Int.sub_zero] <;> rfl) (by simp only [go_sem] <;> rfl) ?_)
                  refine Run.nil ?_
                  refine Exec.reg1 ?_
                  refine Run.op (by simp only [go_sem, hr, hs, hst, elo, eL, hmt, e2, hcs, Int.sub_zero] <;> rfl) (by simp only [go_sem] <;> rfl) ?_
                  refine Run.nil ?_
                  refine BlkK.nrm ?_
                  refine Exec.reg1 ?_
                  refine Run.op (by simp only [go_sem, hr, hs, hst, elo, eL, hmt, e2, hcs, Int.sub_zero] <;> rfl) (by simp only [go_sem] <;> rfl) ?_
                  refine Run.op (by simp only [go_sem, hr, hs, hst, elo, eL, hmt, e2, hcs, Int.sub_zero]; (try simp (disch := omega) only [IntWalk.i64_in, IntWalk.u64_in, if_neg, if_pos])<;> rfl) (by simp only [go_sem] <;> rfl) ?_
                  refine Run.op (by simp only [go_sem, hr, hs, hst, elo, eL, hmt, e2, hcs, Int.sub_zero] <;> rfl) (by simp only [go_sem] <;> rfl) ?_
                  refine Run.nil ?_
                  refine ForK.nxt ?_ ?_ ?_
                  · omega
                  · exact Ghost.kp [1, 2, 10, 11, 12, 13, 14, 15] [3] (by simp only [go_sem, hr, hs, hst, elo, eL, hmt, e2, hcs, Int.sub_zero]; first | ((repeat' (first | with_reducible_and_instances rfl | refine st_eq ?_ ?_ ?_ | refine ret_eq ?_ | refine tup_eq ?_ | refine tm_eq ?_ ?_ | refine arr_eq ?_ | refine cells_eq ?_ | refine val_eq ?_ | refine ls_eq ?_ ?_ | refine own_eq ?_ ?_ | refine sl_eq ?_ | refine b_eq ?_ | (refine i_eq ?_; omega))); (all_goals (first | omega | (simp; try omega)))) | rfl)
                  · trivial
        · skip
          have hke : k = l.length := by have := ge_of_dec hb39; omega
          subst hke
          have hpb := pb_all (start := r.start) (at_ := at_) hlb l.length (Nat.le_refl _)
          rw [List.take_length] at hpb
          obtain ⟨q1, q2, q3, q4, q5⟩ := hpb
          have eD : (pS at_ r.start l).all - ((pS at_ r.start l).all - (pS at_ r.start l).ct) = (pS at_ r.start l).ct := by omega
          refine Exec.exitS ?_
          refine ForK.ext ?_
          refine BlkK.hit ?_
          refine Exec.reg ?_
          iterate 2 (refine Run.op (by simp only [go_sem, hr, List.take_length, eD] <;> rfl) (by simp only [go_sem] <;> rfl) ?_)
          refine Run.op (by simp only [go_sem, hr, List.take_length, eD]; (try simp (disch := omega) only [IntWalk.i64_in, IntWalk.u64_in, if_neg, if_pos])<;> rfl) (by simp only [go_sem] <;> rfl) ?_
          iterate 4 (refine Run.op (by simp only [go_sem, hr, List.take_length, eD] <;> rfl) (by simp only [go_sem] <;> rfl) ?_)
          refine Run.nil ?_
          exact Ends.fin [] (rs := [.tmp 6, .tmp 7, .tmp 8]) rfl (by simp only [go_sem, hr, List.take_length, eD] <;> rfl) (by simp only [go_sem, hr, List.take_length, eD] <;> first | rfl | ((repeat' (first | with_reducible_and_instances rfl | refine st_eq ?_ ?_ ?_ | refine ret_eq ?_ | refine tup_eq ?_ | refine tm_eq ?_ ?_ | refine arr_eq ?_ | refine cells_eq ?_ | refine val_eq ?_ | refine ls_eq ?_ ?_ | refine own_eq ?_ ?_ | refine sl_eq ?_ | refine b_eq ?_ | (refine i_eq ?_; omega))); done))

end Go.Mw

/- Contracts of the functions that the term reaches: the document's terms. -/
import Derived.Test.YtkekecfocnidpaaB5
import Derived.Test.YtkekecfocnidpaaB4
set_option linter.unusedSimpArgs false
set_option linter.unusedVariables false
set_option linter.unusedSectionVars false
set_option linter.deprecated false
namespace Go.Mw
open Go.Proofs
open Go.Te
set_option maxRecDepth 20000 in
set_option maxHeartbeats 2000000 in
/-- meterworks/meterworksref07.Passes -/
theorem c_meterworksref07_Passes (s : Stk) (p : Pf) (c : Cls) (hc : s.cs[p.cl.toNat]? = some c) (h0 : 0 ≤ p.cl) (hf : 0 ≤ p.failed ∧ p.failed ≤ 1048576) : Contract Try.prog 20 [stkV s, pfV p] (.bool (decide ((popc p.failed.toNat : Int) ≤ c.fail))) [] := by
  obtain ⟨f, hfe⟩ : ∃ f : Nat, p.failed = f := ⟨p.failed.toNat, by omega⟩
  have hft : p.failed.toNat = f := by omega
  have hpl := popc_le f
  refine con_of follows_mixed Try.func20 rfl (by simp only [List.length_cons, List.length_nil, Try.ntmps20]; omega) (by kernel_rfl) rfl ?_
  refine Exec.reg ?_
  iterate 3 (refine Run.o ?_)
  refine Run.nil ?_
  refine Exec.opk 6 ?_
  refine OpenK.o ?_
  refine OpenK.o1 (by simp only [go_sem, hfe, hft, hc] <;> rfl) ?_
  iterate 2 (refine OpenK.o ?_)
  refine OpenK.nil (OpenE.fin (by decide +kernel) (by decide +kernel) ?_)
  refine Exec.blk ?_
  refine Exec.whl [2, 3, 5, 6] [2, 3] (fun (t : Nat × Nat) => [.slot 5 (.int (t.1 : Nat)), .slot 6 (.int (t.2 : Nat))]) (fun t => t.1 + popc t.2 = popc f ∧ t.2 ≤ f) (fun t => t.2) ((0, f)) (fun t => by simp only [go_sem] <;> rfl) (by simp only [go_sem, hfe, hft, hc, Int.natCast_zero] <;> rfl) ?_ (fun t hX => ?_)
  · exact ⟨Nat.zero_add _, Nat.le_refl _⟩
  refine Exec.assocS ?_
  refine Exec.reg ?_
  refine Run.o ?_
  refine Run.o1 (by simp only [go_sem, hfe, hft, hc] <;> rfl) ?_
  refine Run.nil ?_
  refine Exec.cndS (by simp only [go_sem, hfe, hft, hc] <;> rfl) (fun hb10 => ?_) (fun hb10 => ?_)
  · skip
    have hlt : 0 < t.2 := by have := of_decide_eq_true hb10; omega
    have hpp := popc_pos (n := t.2) (by omega)
    have e1 : ((t.2 : Int)).tmod 2 = ((t.2 % 2 : Nat) : Int) := by rw [Int.tmod_eq_emod_of_nonneg (by omega)]; omega
    have e2 : ((t.2 : Int)).tdiv 2 = ((t.2 / 2 : Nat) : Int) := by rw [Int.tdiv_eq_ediv_of_nonneg (by omega)]; omega
    have hz : ¬ (2 : Int) = 0 := by omega
    refine Exec.skipS ?_
    refine Exec.blk1 ?_
    refine Exec.reg ?_
    iterate 2 (refine Run.o ?_)
    iterate 2 (refine Run.o1 (by simp only [go_sem, hfe, hft, hc, e1, e2, hz, if_false]; (try simp (disch := omega) only [IntWalk.i64_in, IntWalk.u64_in, if_neg, if_pos])<;> rfl) ?_)
    refine Run.o ?_
    refine Run.nil ?_
    refine Exec.reg1 ?_
    refine Run.o ?_
    refine Run.o1 (by simp only [go_sem, hfe, hft, hc, e1, e2, hz, if_false]; (try simp (disch := omega) only [IntWalk.i64_in, IntWalk.u64_in, if_neg, if_pos])<;> rfl) ?_
    refine Run.o ?_
    refine Run.nil ?_
    refine Blk1K.nrm ?_
    refine WhlK.nxt ((t.1 + t.2 % 2, t.2 / 2)) ?_ ?_ ?_
    · exact Nat.div_lt_self hlt (by omega)
    · exact ⟨by show t.1 + t.2 % 2 + popc (t.2 / 2) = popc f; omega, by show t.2 / 2 ≤ f; omega⟩
    · exact Ghost.kp [2, 3, 5, 6] [2, 3] (by simp only [go_sem, hfe, hft, hc, e1, e2, hz, if_false]; first | ((repeat' (first | with_reducible_and_instances rfl | refine st_eq ?_ ?_ ?_ | refine ret_eq ?_ | refine tup_eq ?_ | refine tm_eq ?_ ?_ | refine arr_eq ?_ | refine cells_eq ?_ | refine val_eq ?_ | refine ls_eq ?_ ?_ | refine own_eq ?_ ?_ | refine sl_eq ?_ | refine b_eq ?_ | (refine i_eq ?_; omega))); done) | rfl)
  have hle : t.2 = 0 := by have := of_decide_eq_false hb10; omega
  have hpz := popc_zero
  have h1 : t.1 = popc f := by have := hX.1; rw [hle, hpz] at this; omega
  refine Exec.exitS ?_
  refine WhlK.ext ?_
  refine BlkK.hit ?_
  refine Exec.reg ?_
  iterate 2 (refine Run.o ?_)
  refine Run.o1 (by simp only [go_sem, hfe, hft, hc, h1] <;> rfl) ?_
  refine Run.o ?_
  refine Run.o1 (by simp only [go_sem, hfe, hft, hc, h1] <;> rfl) ?_
  refine Run.o1 (by simp only [go_sem, hfe, hft, hc, h1]; (try simp (disch := omega) only [if_pos]); (try simp only [go_sem, hfe, hft, hc, h1])<;> rfl) ?_
  refine Run.o ?_
  iterate 2 (refine Run.o1 (by simp only [go_sem, hfe, hft, hc, h1] <;> rfl) ?_)
  refine Run.o ?_
  refine Run.nil ?_
  exact Ends.fin [] (rs := [.tmp 4]) rfl (by simp only [go_sem, hfe, hft, hc, h1] <;> rfl) (by simp only [go_sem, hfe, hft, hc, h1] <;> first | rfl | ((repeat' (first | with_reducible_and_instances rfl | refine st_eq ?_ ?_ ?_ | refine ret_eq ?_ | refine tup_eq ?_ | refine tm_eq ?_ ?_ | refine arr_eq ?_ | refine cells_eq ?_ | refine val_eq ?_ | refine ls_eq ?_ ?_ | refine own_eq ?_ ?_ | refine sl_eq ?_ | refine b_eq ?_ | (refine i_eq ?_; omega))); done))

end Go.Mw
namespace Go.Mw
open Go.Proofs
open Go.Te
theorem stepF {s : Stk} {p : Pf} {r : Sl} {t : Int × Int} (h : r.cl = p.cl ∧ inForce r t.1 p.day = true) (h1 : passB s p = false) : step1 s p r t = (p.day + 1, t.2) := by
  unfold step1; rw [if_pos h, if_pos h1]
theorem stepM {s : Stk} {p : Pf} {r : Sl} {t : Int × Int} (h : r.cl = p.cl ∧ inForce r t.1 p.day = true) (h1 : passB s p = true) (h2 : t.2 < (clsOf s p.cl).times) : step1 s p r t = (t.1 + (clsOf s p.cl).more, t.2 + 1) := by
  unfold step1; rw [if_pos h, if_neg (by rw [h1]; decide), if_pos h2]
theorem stepX {s : Stk} {p : Pf} {r : Sl} {t : Int × Int} (h : r.cl = p.cl ∧ inForce r t.1 p.day = true) (h1 : passB s p = true) (h2 : ¬ t.2 < (clsOf s p.cl).times) : step1 s p r t = t := by
  unfold step1; rw [if_pos h, if_neg (by rw [h1]; decide), if_neg h2]
end Go.Mw
namespace Go.Mw
open Go.Proofs
open Go.Te
abbrev termsV (t : List (Int × Int) × Int × Int) : AV := .tup [(false, [.d (tmsD t.1)]), (false, [.d (.i t.2.1)]), (false, [.d (.i t.2.2)])]
theorem terms_bad {s : Stk} (h : stockB s = false) : termsR s = ([], 0, 1) := by unfold termsR; rw [if_pos h]
theorem terms_row {s : Stk} {i : Nat} (h : stockB s = true) (h1 : firstE (rowErr s) s.rs.length = some i) : termsR s = ([], (i : Int), 5) := by
  unfold termsR; rw [if_neg (by rw [h]; decide), h1]
theorem terms_brk {s : Stk} {i : Nat} (h : stockB s = true) (h1 : firstE (rowErr s) s.rs.length = none) (h2 : firstE (brErr s) s.bs.length = some i) : termsR s = ([], (i : Int), brErr s i) := by
  unfold termsR; rw [if_neg (by rw [h]; decide), h1]; simp only []; rw [h2]
theorem terms_prf {s : Stk} {i : Nat} (h : stockB s = true) (h1 : firstE (rowErr s) s.rs.length = none) (h2 : firstE (brErr s) s.bs.length = none) (h3 : firstE (prErr s) s.ps.length = some i) : termsR s = ([], (((ordI s).getD i 0 : Nat) : Int), prErr s i) := by
  unfold termsR; rw [if_neg (by rw [h]; decide), h1]; simp only []; rw [h2]; simp only []; rw [h3]
theorem terms_ok {s : Stk} (h : stockB s = true) (h1 : firstE (rowErr s) s.rs.length = none) (h2 : firstE (brErr s) s.bs.length = none) (h3 : firstE (prErr s) s.ps.length = none) : termsR s = (stAt s s.ps.length, 0, 0) := by
  unfold termsR; rw [if_neg (by rw [h]; decide), h1]; simp only []; rw [h2]; simp only []; rw [h3]
end Go.Mw

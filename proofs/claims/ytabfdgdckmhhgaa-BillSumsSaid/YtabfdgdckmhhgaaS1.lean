/- Contracts of the statements BillSums and BillRises. -/
import Derived.Test.YtabfdgdckmhhgaaB11
import Derived.Test.YtabfdgdckmhhgaaB4
import Derived.Test.YtabfdgdckmhhgaaRows
set_option linter.unusedSimpArgs false
set_option linter.unusedVariables false
set_option linter.unusedSectionVars false
set_option linter.deprecated false
namespace Go.Mw
open Go.Proofs
open Go.Bi
attribute [local go_sem] decide_true beq_self_eq_true bne_self_eq_false
theorem bE_one {a : Ac} (h : billsE a ≠ 0) : (billsE a == 1) = !acctB a := by
  by_cases hA : acctB a = false
  · have e : startE a = 1 := if_pos hA
    have : billsE a = 1 := by unfold billsE; rw [if_pos (by rw [e]; decide), e]
    rw [this, hA]; rfl
  · have hA : acctB a = true := by simpa using hA
    have hs : startE a = 0 ∨ startE a = 5 := by
      unfold startE
      rw [if_neg (by rw [hA]; decide)]
      split
      · exact .inr rfl
      · exact .inl rfl
    rw [hA]
    unfold billsE at h ⊢
    rcases hs with e | e
    · rw [if_neg (by rw [e]; decide)] at h ⊢
      split
      · rfl
      · rename_i h2; rw [if_neg h2] at h; exact absurd rfl h
    · rw [if_pos (by rw [e]; decide), e]; rfl
theorem billsR_E (a : Ac) : (billsR a).2 = billsE a := by
  unfold billsR
  split
  · rename_i h; exact h.symm
  · rfl
theorem bills_zero {a : Ac} (h : billsE a = 0) : startE a = 0 ∧ ordsB a a.bs = true := by
  have he0 : startE a = 0 := by
    unfold billsE at h
    split at h
    · rename_i h2; exact absurd h h2
    · rename_i h2; simpa using h2
  refine ⟨he0, ?_⟩
  unfold billsE at h
  rw [if_neg (by simp [he0])] at h
  split at h
  · cases h
  · rename_i h2; simpa using h2
theorem open_ok {a : Ac} {day known : Int} (h : startE a = 0) (hd : a.start ≤ day ∧ day ≤ 131072) (hk : 0 ≤ known ∧ known ≤ 131072) (ho : ordB a known = true) : openE a day known = 0 := by
  unfold openE
  rw [if_neg (by simp [h]), if_neg (by rw [inD_iff.2 hd, inD_iff.2 hk]; decide), if_neg (by rw [ho]; decide)]
theorem bUp_at {a : Ac} (v : Val a) {k : Nat} (h : k < a.bs.length) : bUp a (bdAt a k) = k + 1 := by
  have h1 := (bUp_iff v (day := bdAt a k) h).1 (Int.le_refl _)
  have h2 := bUp_le a (bdAt a k)
  refine Classical.byContradiction fun hc => ?_
  have h3 : k + 1 < a.bs.length := by omega
  have h4 := (bUp_iff v (day := bdAt a k) h3).2 (by omega)
  have := bil_lt v h3
  omega
theorem at_bill {a : Ac} (hE : billsE a = 0) {k : Nat} (h : k < a.bs.length) :
    usedR a (bdAt a k) (bdAt a k) = (litTo a (k + 1), 0) ∧ costR a (bdAt a k) (bdAt a k) = (penTo a (k + 1), 0) ∧ owedR a (bdAt a k) = (0, 0) ∧ (0 < k → costR a (bdAt a (k - 1)) (bdAt a k) = (corAt a k + penTo a k, 0)) := by
  obtain ⟨hs, ho⟩ := bills_zero hE
  have v := start_val hs
  have hst := v.start
  have hd := bd_val v h
  have hok := ords_bd ho h
  have h0 := open_ok hs hd (by omega) hok
  refine ⟨if_pos h0, if_pos h0, ?_, fun hk => ?_⟩
  · have hu := bUp_at v h
    have hoe : ordsB a (a.bs.take (k + 1)) = true := List.all_eq_true.2 fun d hd => ords_at ho (List.mem_of_mem_take hd)
    have hE : owedE a (bdAt a k) = 0 := by
      unfold owedE
      rw [hu, if_neg (by simp [h0]), if_neg (by rw [hoe]; decide)]
    unfold owedR
    rw [if_pos hE, hu, penTo_succ]
    simp
  · have hp := bd_val v (k := k - 1) (by omega)
    have h1 := open_ok hs hp (by omega : 0 ≤ bdAt a k ∧ bdAt a k ≤ 131072) hok
    have hc := cor_pos a hk
    have e : costR a (bdAt a (k - 1)) (bdAt a k) = (cost a (bdAt a k) (-1) (bdAt a (k - 1)), 0) := if_pos h1
    have hpk : penTo a k = cost a (bdAt a (k - 1)) (-1) (bdAt a (k - 1)) := by
      obtain ⟨j, rfl⟩ : ∃ j, k = j + 1 := ⟨k - 1, by omega⟩
      rfl
    rw [e, hc, hpk]
    congr 1
    omega
set_option maxRecDepth 20000 in
set_option maxHeartbeats 32000000 in
/-- meterworks/meterworkslaw13.BillSums -/
theorem c_law_BillSums (a : Ac) : Contract Try.prog 5 [acV a] (.bool true) [] := by
  have hb2 := billsR_E a
  have hz1 : litTo a 0 = 0 := rfl
  have hz2 : penTo a 0 = 0 := rfl
  refine con_of follows_mixed Try.func5 rfl (by simp only [List.length_cons, List.length_nil, Try.ntmps5]; omega) (by kernel_rfl) rfl ?_
  refine Exec.reg ?_
  iterate 2 (refine Run.o1 (by simp only [go_sem, hb2, gt_iff_lt] <;> rfl) ?_)
  refine Run.nil ?_
  refine Exec.assocS ?_
  refine Exec.reg ?_
  refine Run.o1 (by simp only [go_sem, hb2, gt_iff_lt] <;> rfl) ?_
  refine Run.c1 (c_law_large a) (by simp only [go_sem, hb2, gt_iff_lt] <;> rfl) (by simp only [go_sem, hb2, gt_iff_lt] <;> rfl) ?_
  refine Run.nil ?_
  refine Exec.cndS (by simp only [go_sem, hb2, gt_iff_lt] <;> rfl) (fun hb18 => ?_) (fun hb18 => ?_)
  · skip
    refine Exec.assocS ?_
    refine Exec.reg ?_
    refine Run.c1 (c_law_awake) (by simp only [go_sem, hb2, gt_iff_lt] <;> rfl) (by simp only [go_sem, hb2, gt_iff_lt] <;> rfl) ?_
    refine Run.o1 (by simp only [go_sem, hb2, gt_iff_lt] <;> rfl) ?_
    refine Run.nil ?_
    refine Exec.retS ?_
    exact Ends.fin [] (rs := [.tmp 2]) rfl (by simp only [go_sem, hb2, gt_iff_lt] <;> rfl) (by simp only [go_sem, hb2, gt_iff_lt] <;> first | rfl | exact eqz)
  · skip
    refine Exec.skipS ?_
    refine Exec.reg ?_
    refine Run.o1 (by simp only [go_sem, hb2, gt_iff_lt] <;> rfl) ?_
    refine Run.c1 (c_bill_Bills a) (by simp only [go_sem, hb2, gt_iff_lt] <;> rfl) (by simp only [go_sem, hb2, gt_iff_lt] <;> rfl) ?_
    iterate 5 (refine Run.o1 (by simp only [go_sem, hb2, gt_iff_lt] <;> rfl) ?_)
    refine Run.nil ?_
    refine Exec.assocS ?_
    refine Exec.reg ?_
    iterate 2 (refine Run.o1 (by simp only [go_sem, hb2, gt_iff_lt] <;> rfl) ?_)
    refine Run.nil ?_
    refine Exec.cndS (by simp only [go_sem, hb2, gt_iff_lt] <;> rfl) (fun hb26 => ?_) (fun hb26 => ?_)
    · skip
      have hne : billsE a ≠ 0 := by have h := hb26; simp only [bne_iff_ne, ne_eq] at h; exact h
      have hr : billsR a = ([], billsE a) := if_neg hne
      have h1 := bE_one hne
      refine Exec.assocS ?_
      refine Exec.reg ?_
      iterate 4 (refine Run.o1 (by simp only [go_sem, hb2, gt_iff_lt, hr, h1] <;> rfl) ?_)
      iterate 3 (refine Run.y1 (by simp only [go_sem, hb2, gt_iff_lt, hr, h1] <;> rfl) ?_)
      refine Run.calw (by simp only [go_sem] <;> rfl) (c_ref_Account a) (by simp only [go_sem]) (by simp only [go_sem, hb2, gt_iff_lt, hr, h1] <;> rfl) (by simp only [go_sem, hb2, gt_iff_lt, hr, h1] <;> rfl) (by exact ⟨by first | exact WkR.pure rfl | exact WkR.nil _ | exact WkR.int (by first | omega | (simp; done) | (simp; omega)), trivial⟩) (fr0) (by simp only [go_sem, hb2, gt_iff_lt, hr, h1] <;> rfl) ?_
      iterate 2 (refine Run.y1 (by simp only [go_sem, hb2, gt_iff_lt, hr, h1] <;> rfl) ?_)
      iterate 2 (refine Run.o1 (by simp only [go_sem, hb2, gt_iff_lt, hr, h1] <;> rfl) ?_)
      refine Run.calw (by simp only [go_sem] <;> rfl) (c_law_awake) (by simp only [go_sem]) (by simp only [go_sem, hb2, gt_iff_lt, hr, h1] <;> rfl) (by simp only [go_sem, hb2, gt_iff_lt, hr, h1] <;> rfl) (by exact trivial) (fr0) (by simp only [go_sem, hb2, gt_iff_lt, hr, h1] <;> rfl) ?_
      iterate 2 (refine Run.o1 (by simp only [go_sem, hb2, gt_iff_lt, hr, h1] <;> rfl) ?_)
      refine Run.nil ?_
      refine Exec.retS ?_
      exact Ends.fin [] (rs := [.tmp 2]) rfl (by simp only [go_sem, hb2, gt_iff_lt, hr, h1] <;> rfl) (by simp only [go_sem, hb2, gt_iff_lt, hr, h1] <;> first | rfl | exact eqz)
    · skip
      have hE : billsE a = 0 := by have h := hb26; simp only [bne_eq_false_iff_eq] at h; exact h
      obtain ⟨hs, ho⟩ := bills_zero hE
      have v := start_val hs
      have hA := (start_zero hs).1
      have hnb := v.nbs
      have hr : billsR a = (bllsT a a.bs.length, 0) := if_pos hE
      have hll := blls_len a a.bs.length
      refine Exec.skipS ?_
      refine Exec.assocS ?_
      refine Exec.reg ?_
      refine Run.o1 (by simp only [go_sem, hb2, gt_iff_lt, hr, hA, hll] <;> rfl) ?_
      refine Run.c1 (c_ref_Account a) (by simp only [go_sem, hb2, gt_iff_lt, hr, hA, hll] <;> rfl) (by simp only [go_sem, hb2, gt_iff_lt, hr, hA, hll] <;> rfl) ?_
      iterate 2 (refine Run.o1 (by simp only [go_sem, hb2, gt_iff_lt, hr, hA, hll] <;> rfl) ?_)
      iterate 6 (refine Run.y1 (by simp only [go_sem, hb2, gt_iff_lt, hr, hA, hll] <;> rfl) ?_)
      refine Run.o1 (by simp only [go_sem, hb2, gt_iff_lt, hr, hA, hll] <;> rfl) ?_
      refine Run.nil ?_
      refine Exec.cndS (by simp only [go_sem, hb2, gt_iff_lt, hr, hA, hll] <;> rfl) (fun hb51 => ?_) (fun hb51 => ?_)
      · exact absurd hb51 (by simp)
      · skip
        refine Exec.skipS ?_
        refine Exec.reg ?_
        iterate 2 (refine Run.o1 (by simp only [go_sem, hb2, gt_iff_lt, hr, hA, hll] <;> rfl) ?_)
        refine Run.nil ?_
        refine Exec.assocS ?_
        refine Exec.reg ?_
        refine Run.o1 (by simp only [go_sem, hb2, gt_iff_lt, hr, hA, hll] <;> rfl) ?_
        refine Run.nil ?_
        refine Exec.blk ?_
        refine Exec.forA [1, 3, 5, 6, 7] [1] (a.bs.length) (fun k => [.slot 7 (.int k), .slot 5 (.int (litTo a k)), .slot 6 (.int (penTo a k))]) (fun _ => True) (fun k => by simp only [go_sem] <;> rfl) (by simp only [go_sem, hb2, gt_iff_lt, hr, hA, hll, Int.natCast_zero, hz1, hz2] <;> rfl) ?_ (fun k hk hX => ?_)
        · trivial
        · skip
          refine Exec.assocS ?_
          refine Exec.reg ?_
          iterate 4 (refine Run.o1 (by simp only [go_sem, hb2, gt_iff_lt, hr, hA, hll] <;> rfl) ?_)
          refine Run.nil ?_
          refine Exec.cndS (by simp only [go_sem, hb2, gt_iff_lt, hr, hA, hll] <;> rfl) (fun hb55 => ?_) (fun hb55 => ?_)
          · skip
            have hlt : k < a.bs.length := by have := of_decide_eq_true hb55; omega
            have hk1 : a.bs[k]? = some (bdAt a k) := bs_get hlt
            have hkl : (bllsT a a.bs.length)[k]? = some (blAt a k) := by unfold bllsT; rw [List.getElem?_map, List.getElem?_range hlt]; rfl
            have b1 : (blAt a k).lit = litTo a (k + 1) - litTo a k := rfl
            have b2 : (blAt a k).pence = penTo a (k + 1) - penTo a k := rfl
            have b3 : (blAt a k).corr = corAt a k := rfl
            obtain ⟨q1, q2, q3, q4⟩ := at_bill hE hlt
            have l1 := litTo_bnd v ho k (by omega)
            have l2 := litTo_bnd v ho (k + 1) (by omega)
            have p1 := penTo_bnd v ho k (by omega)
            have p2 := penTo_bnd v ho (k + 1) (by omega)
            have s1 : litTo a k + (litTo a (k + 1) - litTo a k) = litTo a (k + 1) := by omega
            have s2 : penTo a k + (penTo a (k + 1) - penTo a k) = penTo a (k + 1) := by omega
            refine Exec.skipS ?_
            refine Exec.blk ?_
            refine Exec.reg ?_
            iterate 3 (refine Run.o1 (by simp only [go_sem, hb2, gt_iff_lt, hr, hA, hll, hk1, hkl, b1, b2, b3, q1, q2, q3, s1, s2] <;> rfl) ?_)
            refine Run.o1 (by simp only [go_sem, hb2, gt_iff_lt, hr, hA, hll, hk1, hkl, b1, b2, b3, q1, q2, q3, s1, s2]; (try simp (disch := omega) only [if_pos]); (try simp only [go_sem, hb2, gt_iff_lt, hr, hA, hll, hk1, hkl, b1, b2, b3, q1, q2, q3, s1, s2])<;> rfl) ?_
            iterate 2 (refine Run.o1 (by simp only [go_sem, hb2, gt_iff_lt, hr, hA, hll, hk1, hkl, b1, b2, b3, q1, q2, q3, s1, s2] <;> rfl) ?_)
            refine Run.nil ?_
            refine Exec.opk 18 ?_
            iterate 3 (refine OpenK.o1 (by simp only [go_sem, hb2, gt_iff_lt, hr, hA, hll, hk1, hkl, b1, b2, b3, q1, q2, q3, s1, s2] <;> rfl) ?_)
            refine OpenK.o1 (by simp only [go_sem, hb2, gt_iff_lt, hr, hA, hll, hk1, hkl, b1, b2, b3, q1, q2, q3, s1, s2]; (try simp (disch := omega) only [if_pos]); (try simp only [go_sem, hb2, gt_iff_lt, hr, hA, hll, hk1, hkl, b1, b2, b3, q1, q2, q3, s1, s2])<;> rfl) ?_
            iterate 2 (refine OpenK.o1 (by simp only [go_sem, hb2, gt_iff_lt, hr, hA, hll, hk1, hkl, b1, b2, b3, q1, q2, q3, s1, s2] <;> rfl) ?_)
            refine OpenK.o1 (by simp only [go_sem, hb2, gt_iff_lt, hr, hA, hll, hk1, hkl, b1, b2, b3, q1, q2, q3, s1, s2]; (try simp (disch := omega) only [IntWalk.i64_in, IntWalk.u64_in, if_neg, if_pos])<;> rfl) ?_
            iterate 3 (refine OpenK.o1 (by simp only [go_sem, hb2, gt_iff_lt, hr, hA, hll, hk1, hkl, b1, b2, b3, q1, q2, q3, s1, s2] <;> rfl) ?_)
            refine OpenK.o1 (by simp only [go_sem, hb2, gt_iff_lt, hr, hA, hll, hk1, hkl, b1, b2, b3, q1, q2, q3, s1, s2]; (try simp (disch := omega) only [if_pos]); (try simp only [go_sem, hb2, gt_iff_lt, hr, hA, hll, hk1, hkl, b1, b2, b3, q1, q2, q3, s1, s2])<;> rfl) ?_
            iterate 2 (refine OpenK.o1 (by simp only [go_sem, hb2, gt_iff_lt, hr, hA, hll, hk1, hkl, b1, b2, b3, q1, q2, q3, s1, s2] <;> rfl) ?_)
            refine OpenK.o1 (by simp only [go_sem, hb2, gt_iff_lt, hr, hA, hll, hk1, hkl, b1, b2, b3, q1, q2, q3, s1, s2]; (try simp (disch := omega) only [IntWalk.i64_in, IntWalk.u64_in, if_neg, if_pos])<;> rfl) ?_
            iterate 2 (refine OpenK.o1 (by simp only [go_sem, hb2, gt_iff_lt, hr, hA, hll, hk1, hkl, b1, b2, b3, q1, q2, q3, s1, s2] <;> rfl) ?_)
            refine OpenK.nil (OpenE.fin (by decide +kernel) (by decide +kernel) ?_)
            refine Exec.reg ?_
            iterate 3 (refine Run.o1 (by simp only [go_sem, hb2, gt_iff_lt, hr, hA, hll, hk1, hkl, b1, b2, b3, q1, q2, q3, s1, s2] <;> rfl) ?_)
            refine Run.c1 (c_bill_Used a (bdAt a k) (bdAt a k)) (by simp only [go_sem, hb2, gt_iff_lt, hr, hA, hll, hk1, hkl, b1, b2, b3, q1, q2, q3, s1, s2] <;> rfl) (by simp only [go_sem, hb2, gt_iff_lt, hr, hA, hll, hk1, hkl, b1, b2, b3, q1, q2, q3, s1, s2] <;> rfl) ?_
            iterate 5 (refine Run.o1 (by simp only [go_sem, hb2, gt_iff_lt, hr, hA, hll, hk1, hkl, b1, b2, b3, q1, q2, q3, s1, s2] <;> rfl) ?_)
            refine Run.nil ?_
            refine Exec.reg ?_
            iterate 3 (refine Run.o1 (by simp only [go_sem, hb2, gt_iff_lt, hr, hA, hll, hk1, hkl, b1, b2, b3, q1, q2, q3, s1, s2] <;> rfl) ?_)
            refine Run.c1 (c_bill_Cost a (bdAt a k) (bdAt a k)) (by simp only [go_sem, hb2, gt_iff_lt, hr, hA, hll, hk1, hkl, b1, b2, b3, q1, q2, q3, s1, s2] <;> rfl) (by simp only [go_sem, hb2, gt_iff_lt, hr, hA, hll, hk1, hkl, b1, b2, b3, q1, q2, q3, s1, s2] <;> rfl) ?_
            iterate 5 (refine Run.o1 (by simp only [go_sem, hb2, gt_iff_lt, hr, hA, hll, hk1, hkl, b1, b2, b3, q1, q2, q3, s1, s2] <;> rfl) ?_)
            refine Run.nil ?_
            refine Exec.reg ?_
            iterate 2 (refine Run.o1 (by simp only [go_sem, hb2, gt_iff_lt, hr, hA, hll, hk1, hkl, b1, b2, b3, q1, q2, q3, s1, s2] <;> rfl) ?_)
            refine Run.c1 (c_bill_Owed a (bdAt a k)) (by simp only [go_sem, hb2, gt_iff_lt, hr, hA, hll, hk1, hkl, b1, b2, b3, q1, q2, q3, s1, s2] <;> rfl) (by simp only [go_sem, hb2, gt_iff_lt, hr, hA, hll, hk1, hkl, b1, b2, b3, q1, q2, q3, s1, s2] <;> rfl) ?_
            iterate 5 (refine Run.o1 (by simp only [go_sem, hb2, gt_iff_lt, hr, hA, hll, hk1, hkl, b1, b2, b3, q1, q2, q3, s1, s2] <;> rfl) ?_)
            refine Run.nil ?_
            refine Exec.assocS ?_
            refine Exec.reg ?_
            iterate 4 (refine Run.o1 (by simp only [go_sem, hb2, gt_iff_lt, hr, hA, hll, hk1, hkl, b1, b2, b3, q1, q2, q3, s1, s2] <;> rfl) ?_)
            iterate 2 (refine Run.y1 (by simp only [go_sem, hb2, gt_iff_lt, hr, hA, hll, hk1, hkl, b1, b2, b3, q1, q2, q3, s1, s2] <;> rfl) ?_)
            iterate 2 (refine Run.o1 (by simp only [go_sem, hb2, gt_iff_lt, hr, hA, hll, hk1, hkl, b1, b2, b3, q1, q2, q3, s1, s2] <;> rfl) ?_)
            iterate 3 (refine Run.y1 (by simp only [go_sem, hb2, gt_iff_lt, hr, hA, hll, hk1, hkl, b1, b2, b3, q1, q2, q3, s1, s2] <;> rfl) ?_)
            iterate 2 (refine Run.o1 (by simp only [go_sem, hb2, gt_iff_lt, hr, hA, hll, hk1, hkl, b1, b2, b3, q1, q2, q3, s1, s2] <;> rfl) ?_)
            iterate 2 (refine Run.y1 (by simp only [go_sem, hb2, gt_iff_lt, hr, hA, hll, hk1, hkl, b1, b2, b3, q1, q2, q3, s1, s2] <;> rfl) ?_)
            iterate 2 (refine Run.o1 (by simp only [go_sem, hb2, gt_iff_lt, hr, hA, hll, hk1, hkl, b1, b2, b3, q1, q2, q3, s1, s2] <;> rfl) ?_)
            iterate 2 (refine Run.y1 (by simp only [go_sem, hb2, gt_iff_lt, hr, hA, hll, hk1, hkl, b1, b2, b3, q1, q2, q3, s1, s2] <;> rfl) ?_)
            iterate 2 (refine Run.o1 (by simp only [go_sem, hb2, gt_iff_lt, hr, hA, hll, hk1, hkl, b1, b2, b3, q1, q2, q3, s1, s2] <;> rfl) ?_)
            iterate 2 (refine Run.y1 (by simp only [go_sem, hb2, gt_iff_lt, hr, hA, hll, hk1, hkl, b1, b2, b3, q1, q2, q3, s1, s2] <;> rfl) ?_)
            refine Run.o1 (by simp only [go_sem, hb2, gt_iff_lt, hr, hA, hll, hk1, hkl, b1, b2, b3, q1, q2, q3, s1, s2] <;> rfl) ?_
            refine Run.nil ?_
            refine Exec.cndS (by simp only [go_sem, hb2, gt_iff_lt, hr, hA, hll, hk1, hkl, b1, b2, b3, q1, q2, q3, s1, s2] <;> rfl) (fun hb120 => ?_) (fun hb120 => ?_)
            · exact absurd hb120 (by simp)
            · skip
              refine Exec.skipS ?_
              refine Exec.assocS ?_
              refine Exec.reg ?_
              iterate 2 (refine Run.o1 (by simp only [go_sem, hb2, gt_iff_lt, hr, hA, hll, hk1, hkl, b1, b2, b3, q1, q2, q3, s1, s2] <;> rfl) ?_)
              refine Run.nil ?_
              refine Exec.cndS (by simp only [go_sem, hb2, gt_iff_lt, hr, hA, hll, hk1, hkl, b1, b2, b3, q1, q2, q3, s1, s2] <;> rfl) (fun hb122 => ?_) (fun hb122 => ?_)
              · skip
                have hk0 : k = 0 := by simpa using hb122
                have hc0 : corAt a k = 0 := by rw [hk0]; rfl
                refine Exec.assocS ?_
                refine Exec.assocS ?_
                refine Exec.reg ?_
                iterate 2 (refine Run.o1 (by simp only [go_sem, hb2, gt_iff_lt, hr, hA, hll, hk1, hkl, b1, b2, b3, q1, q2, q3, s1, s2, hc0] <;> rfl) ?_)
                refine Run.o1 (by simp only [go_sem, hb2, gt_iff_lt, hr, hA, hll, hk1, hkl, b1, b2, b3, q1, q2, q3, s1, s2, hc0]; (try simp (disch := omega) only [if_pos]); (try simp only [go_sem, hb2, gt_iff_lt, hr, hA, hll, hk1, hkl, b1, b2, b3, q1, q2, q3, s1, s2, hc0])<;> rfl) ?_
                iterate 3 (refine Run.o1 (by simp only [go_sem, hb2, gt_iff_lt, hr, hA, hll, hk1, hkl, b1, b2, b3, q1, q2, q3, s1, s2, hc0] <;> rfl) ?_)
                refine Run.nil ?_
                refine Exec.cndS (by simp only [go_sem, hb2, gt_iff_lt, hr, hA, hll, hk1, hkl, b1, b2, b3, q1, q2, q3, s1, s2, hc0] <;> rfl) (fun hb128 => ?_) (fun hb128 => ?_)
                · exact absurd hb128 (by simp)
                · skip
                  refine Exec.skipS ?_
                  refine Exec.exitS ?_
                  refine BlkK.hit ?_
                  refine Exec.reg1 ?_
                  refine Run.o1 (by simp only [go_sem, hb2, gt_iff_lt, hr, hA, hll, hk1, hkl, b1, b2, b3, q1, q2, q3, s1, s2, hc0] <;> rfl) ?_
                  refine Run.o1 (by simp only [go_sem, hb2, gt_iff_lt, hr, hA, hll, hk1, hkl, b1, b2, b3, q1, q2, q3, s1, s2, hc0]; (try simp (disch := omega) only [IntWalk.i64_in, IntWalk.u64_in, if_neg, if_pos])<;> rfl) ?_
                  refine Run.o1 (by simp only [go_sem, hb2, gt_iff_lt, hr, hA, hll, hk1, hkl, b1, b2, b3, q1, q2, q3, s1, s2, hc0] <;> rfl) ?_
                  refine Run.nil ?_
                  refine ForK.nxt ?_ ?_ ?_
                  · omega
                  · exact Ghost.kp [1, 3, 5, 6, 7] [1] (by simp only [go_sem, hb2, gt_iff_lt, hr, hA, hll, hk1, hkl, b1, b2, b3, q1, q2, q3, s1, s2, hc0] <;> first | exact eqz | rfl)
                  · trivial
              · skip
                have hk0 : 0 < k := by have h := hb122; simp only [beq_eq_false_iff_ne, ne_eq] at h; omega
                have hkp : a.bs[k - 1]? = some (bdAt a (k - 1)) := bs_get (by omega)
                have t1 : ((k : Int) - 1).toNat = k - 1 := by omega
                have q5 := q4 hk0
                have hcb : -20000000000000000 ≤ corAt a k ∧ corAt a k ≤ 20000000000000000 := by
                  have hc := cor_pos a hk0
                  have hdp := bd_val v (k := k - 1) (by omega)
                  have c1 := cost_bnd v (but := -1) (ords_bd ho hlt) hdp
                  have c2 := cost_bnd v (but := -1) (ords_bd ho (k := k - 1) (by omega)) hdp
                  omega
                have s3 : penTo a (k + 1) - (corAt a k + penTo a k) + corAt a k = penTo a (k + 1) - penTo a k := by omega
                have s4 : corAt a k + penTo a k - (penTo a (k + 1) - (penTo a (k + 1) - penTo a k)) = corAt a k := by omega
                refine Exec.skipS ?_
                refine Exec.opk 16 ?_
                iterate 4 (refine OpenK.o1 (by simp only [go_sem, hb2, gt_iff_lt, hr, hA, hll, hk1, hkl, b1, b2, b3, q1, q2, q3, s1, s2, hkp, t1, q5, s3, s4] <;> rfl) ?_)
                refine OpenK.o1 (by simp only [go_sem, hb2, gt_iff_lt, hr, hA, hll, hk1, hkl, b1, b2, b3, q1, q2, q3, s1, s2, hkp, t1, q5, s3, s4]; (try simp (disch := omega) only [IntWalk.i64_in, IntWalk.u64_in, if_neg, if_pos])<;> rfl) ?_
                refine OpenK.o1 (by simp only [go_sem, hb2, gt_iff_lt, hr, hA, hll, hk1, hkl, b1, b2, b3, q1, q2, q3, s1, s2, hkp, t1, q5, s3, s4]; (try simp (disch := omega) only [if_pos]); (try simp only [go_sem, hb2, gt_iff_lt, hr, hA, hll, hk1, hkl, b1, b2, b3, q1, q2, q3, s1, s2, hkp, t1, q5, s3, s4])<;> rfl) ?_
                iterate 2 (refine OpenK.o1 (by simp only [go_sem, hb2, gt_iff_lt, hr, hA, hll, hk1, hkl, b1, b2, b3, q1, q2, q3, s1, s2, hkp, t1, q5, s3, s4] <;> rfl) ?_)
                refine OpenK.cal (c_bill_Cost a (bdAt a (k - 1)) (bdAt a k)) (by simp only [go_sem]) (by simp only [go_sem, hb2, gt_iff_lt, hr, hA, hll, hk1, hkl, b1, b2, b3, q1, q2, q3, s1, s2, hkp, t1, q5, s3, s4] <;> rfl) (by exact ⟨by first | exact WkR.pure rfl | exact WkR.nil _ | exact WkR.int (by first | omega | (simp; done) | (simp; omega)), by first | exact WkR.pure rfl | exact WkR.nil _ | exact WkR.int (by first | omega | (simp; done) | (simp; omega)), by first | exact WkR.pure rfl | exact WkR.nil _ | exact WkR.int (by first | omega | (simp; done) | (simp; omega)), trivial⟩) (fr0) (by simp only [go_sem, hb2, gt_iff_lt, hr, hA, hll, hk1, hkl, b1, b2, b3, q1, q2, q3, s1, s2, hkp, t1, q5, s3, s4] <;> rfl) (by simp only [go_sem] <;> rfl) (by simp only [go_sem] <;> rfl) ?_
                iterate 5 (refine OpenK.o1 (by simp only [go_sem, hb2, gt_iff_lt, hr, hA, hll, hk1, hkl, b1, b2, b3, q1, q2, q3, s1, s2, hkp, t1, q5, s3, s4] <;> rfl) ?_)
                refine OpenK.nil (OpenE.fin (by decide +kernel) (by decide +kernel) ?_)
                refine Exec.opk 38 ?_
                iterate 3 (refine OpenK.o1 (by simp only [go_sem, hb2, gt_iff_lt, hr, hA, hll, hk1, hkl, b1, b2, b3, q1, q2, q3, s1, s2, hkp, t1, q5, s3, s4] <;> rfl) ?_)
                iterate 2 (refine OpenK.y1 (by simp only [go_sem, hb2, gt_iff_lt, hr, hA, hll, hk1, hkl, b1, b2, b3, q1, q2, q3, s1, s2, hkp, t1, q5, s3, s4] <;> rfl) ?_)
                refine OpenK.y1 (by simp only [go_sem, hb2, gt_iff_lt, hr, hA, hll, hk1, hkl, b1, b2, b3, q1, q2, q3, s1, s2, hkp, t1, q5, s3, s4]; (try simp (disch := omega) only [if_pos]); (try simp only [go_sem, hb2, gt_iff_lt, hr, hA, hll, hk1, hkl, b1, b2, b3, q1, q2, q3, s1, s2, hkp, t1, q5, s3, s4])<;> rfl) ?_
                iterate 4 (refine OpenK.y1 (by simp only [go_sem, hb2, gt_iff_lt, hr, hA, hll, hk1, hkl, b1, b2, b3, q1, q2, q3, s1, s2, hkp, t1, q5, s3, s4] <;> rfl) ?_)
                refine OpenK.y1 (by simp only [go_sem, hb2, gt_iff_lt, hr, hA, hll, hk1, hkl, b1, b2, b3, q1, q2, q3, s1, s2, hkp, t1, q5, s3, s4]; (try simp (disch := omega) only [IntWalk.i64_in, IntWalk.u64_in, if_neg, if_pos])<;> rfl) ?_
                iterate 2 (refine OpenK.y1 (by simp only [go_sem, hb2, gt_iff_lt, hr, hA, hll, hk1, hkl, b1, b2, b3, q1, q2, q3, s1, s2, hkp, t1, q5, s3, s4] <;> rfl) ?_)
                refine OpenK.y1 (by simp only [go_sem, hb2, gt_iff_lt, hr, hA, hll, hk1, hkl, b1, b2, b3, q1, q2, q3, s1, s2, hkp, t1, q5, s3, s4]; (try simp (disch := omega) only [if_pos]); (try simp only [go_sem, hb2, gt_iff_lt, hr, hA, hll, hk1, hkl, b1, b2, b3, q1, q2, q3, s1, s2, hkp, t1, q5, s3, s4])<;> rfl) ?_
                iterate 2 (refine OpenK.y1 (by simp only [go_sem, hb2, gt_iff_lt, hr, hA, hll, hk1, hkl, b1, b2, b3, q1, q2, q3, s1, s2, hkp, t1, q5, s3, s4] <;> rfl) ?_)
                refine OpenK.y1 (by simp only [go_sem, hb2, gt_iff_lt, hr, hA, hll, hk1, hkl, b1, b2, b3, q1, q2, q3, s1, s2, hkp, t1, q5, s3, s4]; (try simp (disch := omega) only [IntWalk.i64_in, IntWalk.u64_in, if_neg, if_pos])<;> rfl) ?_
                refine OpenK.y1 (by simp only [go_sem, hb2, gt_iff_lt, hr, hA, hll, hk1, hkl, b1, b2, b3, q1, q2, q3, s1, s2, hkp, t1, q5, s3, s4] <;> rfl) ?_
                iterate 2 (refine OpenK.o1 (by simp only [go_sem, hb2, gt_iff_lt, hr, hA, hll, hk1, hkl, b1, b2, b3, q1, q2, q3, s1, s2, hkp, t1, q5, s3, s4] <;> rfl) ?_)
                iterate 2 (refine OpenK.y1 (by simp only [go_sem, hb2, gt_iff_lt, hr, hA, hll, hk1, hkl, b1, b2, b3, q1, q2, q3, s1, s2, hkp, t1, q5, s3, s4] <;> rfl) ?_)
                refine OpenK.y1 (by simp only [go_sem, hb2, gt_iff_lt, hr, hA, hll, hk1, hkl, b1, b2, b3, q1, q2, q3, s1, s2, hkp, t1, q5, s3, s4]; (try simp (disch := omega) only [if_pos]); (try simp only [go_sem, hb2, gt_iff_lt, hr, hA, hll, hk1, hkl, b1, b2, b3, q1, q2, q3, s1, s2, hkp, t1, q5, s3, s4])<;> rfl) ?_
                iterate 6 (refine OpenK.y1 (by simp only [go_sem, hb2, gt_iff_lt, hr, hA, hll, hk1, hkl, b1, b2, b3, q1, q2, q3, s1, s2, hkp, t1, q5, s3, s4] <;> rfl) ?_)
                refine OpenK.y1 (by simp only [go_sem, hb2, gt_iff_lt, hr, hA, hll, hk1, hkl, b1, b2, b3, q1, q2, q3, s1, s2, hkp, t1, q5, s3, s4]; (try simp (disch := omega) only [if_pos]); (try simp only [go_sem, hb2, gt_iff_lt, hr, hA, hll, hk1, hkl, b1, b2, b3, q1, q2, q3, s1, s2, hkp, t1, q5, s3, s4])<;> rfl) ?_
                iterate 2 (refine OpenK.y1 (by simp only [go_sem, hb2, gt_iff_lt, hr, hA, hll, hk1, hkl, b1, b2, b3, q1, q2, q3, s1, s2, hkp, t1, q5, s3, s4] <;> rfl) ?_)
                iterate 2 (refine OpenK.y1 (by simp only [go_sem, hb2, gt_iff_lt, hr, hA, hll, hk1, hkl, b1, b2, b3, q1, q2, q3, s1, s2, hkp, t1, q5, s3, s4]; (try simp (disch := omega) only [IntWalk.i64_in, IntWalk.u64_in, if_neg, if_pos])<;> rfl) ?_)
                refine OpenK.y1 (by simp only [go_sem, hb2, gt_iff_lt, hr, hA, hll, hk1, hkl, b1, b2, b3, q1, q2, q3, s1, s2, hkp, t1, q5, s3, s4] <;> rfl) ?_
                refine OpenK.o1 (by simp only [go_sem, hb2, gt_iff_lt, hr, hA, hll, hk1, hkl, b1, b2, b3, q1, q2, q3, s1, s2, hkp, t1, q5, s3, s4] <;> rfl) ?_
                refine OpenK.nil (OpenE.finT (by kernel_rfl) (by kernel_rfl) (by kernel_rfl) ?_)
                refine Exec.cnd (by simp only [go_sem, hb2, gt_iff_lt, hr, hA, hll, hk1, hkl, b1, b2, b3, q1, q2, q3, s1, s2, hkp, t1, q5, s3, s4] <;> rfl) (fun hb176 => ?_) (fun hb176 => ?_)
                · exact absurd hb176 (by simp)
                · skip
                  refine BlkK.nrm ?_
                  refine Exec.reg1 ?_
                  refine Run.o1 (by simp only [go_sem, hb2, gt_iff_lt, hr, hA, hll, hk1, hkl, b1, b2, b3, q1, q2, q3, s1, s2, hkp, t1, q5, s3, s4] <;> rfl) ?_
                  refine Run.o1 (by simp only [go_sem, hb2, gt_iff_lt, hr, hA, hll, hk1, hkl, b1, b2, b3, q1, q2, q3, s1, s2, hkp, t1, q5, s3, s4]; (try simp (disch := omega) only [IntWalk.i64_in, IntWalk.u64_in, if_neg, if_pos])<;> rfl) ?_
                  refine Run.o1 (by simp only [go_sem, hb2, gt_iff_lt, hr, hA, hll, hk1, hkl, b1, b2, b3, q1, q2, q3, s1, s2, hkp, t1, q5, s3, s4] <;> rfl) ?_
                  refine Run.nil ?_
                  refine ForK.nxt ?_ ?_ ?_
                  · omega
                  · exact Ghost.kp [1, 3, 5, 6, 7] [1] (by simp only [go_sem, hb2, gt_iff_lt, hr, hA, hll, hk1, hkl, b1, b2, b3, q1, q2, q3, s1, s2, hkp, t1, q5, s3, s4] <;> first | exact eqz | rfl)
                  · trivial
          · skip
            refine Exec.exitS ?_
            refine ForK.ext ?_
            refine BlkK.hit ?_
            refine Exec.reg ?_
            refine Run.c1 (c_law_awake) (by simp only [go_sem, hb2, gt_iff_lt, hr, hA, hll] <;> rfl) (by simp only [go_sem, hb2, gt_iff_lt, hr, hA, hll] <;> rfl) ?_
            refine Run.o1 (by simp only [go_sem, hb2, gt_iff_lt, hr, hA, hll] <;> rfl) ?_
            refine Run.nil ?_
            exact Ends.fin [] (rs := [.tmp 2]) rfl (by simp only [go_sem, hb2, gt_iff_lt, hr, hA, hll] <;> rfl) (by simp only [go_sem, hb2, gt_iff_lt, hr, hA, hll] <;> first | rfl | exact eqz)

end Go.Mw
namespace Go.Proofs.Ytabfdgdckmhhgaa
open Go.Mw Go.ChangeShapes Go.WideShapes Go.ChangeAt Go.RowKit

theorem own : ownKnob Try.prog.godebug = none := by kernel_rfl
theorem laidOut : laidOutB Try.prog = true := by kernel_rfl
set_option maxRecDepth 100000 in
theorem lifted (os : Os) (started : os.Started) (H : Type) (enc : TypeId × Value → H) :
    ReturnsInHanded {} Try.checked os 5 .any (Rows.billSumsSpec.pre6 enc Try.prog Try.f5 Rows.billSumsRow.domain false) (Rows.billSumsSpec.post enc Try.prog Try.f5 false true false false) := by
  refine returnsInHanded_of_change (C := Try.checked) own started (by kernel_rfl) Try.func5
    (ChangeSpec.witness6 (enc := enc) (C := Try.checked) false ⟨#[], #[.agg #[.int .i64 0, .int .i64 0, .int .i64 0, .int .i64 0, .slice none 0 0, .slice none 0 0, .slice none 0 0, .slice none 0 0]], []⟩ 8 (by kernel_rfl) (by kernel_rfl) (by kernel_rfl) (by kernel_rfl)) ?_
  intro W base args ds gs before hval0 hW hcnd _
  have hval : ∀ (j : Nat) t v, Try.f5.params[j]? = some t → args[j]? = some v → Value.okWide Try.prog W .any base t v := hval0
  have hW' := hW
  obtain ⟨p, q, hA0, hV, rfl, hfz, hnd⟩ := hW
  have hA : DataW.TrodAll enc Try.prog W 0 (fun _ => true) true Try.f5.params.toList args.toList ds p := hA0
  rw [Try.params5] at hA hval
  obtain ⟨v0, d0, rfl, rfl, h0⟩ := trodAll_one hA
  obtain ⟨rfl, rfl⟩ := trodVars_none hV
  obtain ⟨x0, hx0⟩ := ac_read (hval 0 27 v0 rfl rfl) h0
  refine (row_con (c_law_BillSums x0) W [v0] ⟨hx0, trivial⟩).mono fun e W' ⟨he, hb⟩ => ?_
  exact ⟨_, he, post_below (tb := 4) hW' hb rfl rfl rfl (by kernel_rfl) laidOut (by decide +kernel)⟩
theorem holds : Rows.BillSumsSaid :=
  OpenClaim.holds_of_wide 5 Try.f5 rfl rfl rfl rfl rfl rfl rfl ⟨rfl, rfl, rfl, rfl, rfl⟩ rfl rfl rfl rfl rfl (by kernel_rfl) Try.func5 (by kernel_rfl)
    (of_decide_eq_true (by kernel_rfl)) (by unfold Func.isWrapper; first | (rw [if_pos (by decide +kernel)]; kernel_rfl) | (rw [if_neg (by decide +kernel)]; exact ⟨rfl, rfl⟩))
    (fun os started H enc _ => lifted os started H enc)
end Go.Proofs.Ytabfdgdckmhhgaa
#print axioms Go.Proofs.Ytabfdgdckmhhgaa.holds

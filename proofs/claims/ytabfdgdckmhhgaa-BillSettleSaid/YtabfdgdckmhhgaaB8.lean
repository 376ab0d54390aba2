/- Contracts of the functions that the bill reaches: valid accounts, by the document. -/
import Derived.Test.YtabfdgdckmhhgaaB7
set_option linter.unusedSimpArgs false
set_option linter.unusedVariables false
set_option linter.unusedSectionVars false
set_option linter.deprecated false
namespace Go.Mw
open Go.Proofs
open Go.Bi
attribute [local go_sem] decide_true beq_self_eq_true bne_self_eq_false
theorem bs_get {l : List Int} {i : Nat} (h : i < l.length) : l[i]? = some (l.getD i 0) := by rw [List.getElem?_eq_getElem h]; simp [List.getD, List.getElem?_eq_getElem h]
theorem acct_of {a : Ac} (h1 : numsB a = true) (h2 : sizesB a = true) (h3 : pairsT trfOK a.ts a.ts.length = true) (h4 : pairsT (dayOK a.start) a.bs a.bs.length = true) (h5 : pairsT (fun _ n => noteOK a.start n) a.ns a.ns.length = true) (h6 : pairsT (dspOK a.start) a.ds a.ds.length = true) : acctB a = true := by
  unfold acctB
  rw [← pairs_all]
  unfold pairsB
  rw [h1, h2, h3, h4, h5, h6]; rfl
theorem no_trf {a : Ac} {k : Nat} {t : Trf} (hk : a.ts[k]? = some t) (h : trfOK (prv a.ts k) t = false) : acctB a = false := by
  have hl := (List.getElem?_eq_some_iff.1 hk).1
  have : pairsB trfOK a.ts = false := pairsT_false (by rw [pairsT_succ hk, h, Bool.and_false]) _ hl
  unfold acctB; rw [this]; simp
theorem no_bil {a : Ac} {k : Nat} {t : Int} (hk : a.bs[k]? = some t) (h : dayOK a.start (prv a.bs k) t = false) : acctB a = false := by
  have hl := (List.getElem?_eq_some_iff.1 hk).1
  have : pairsB (dayOK a.start) a.bs = false := pairsT_false (by rw [pairsT_succ hk, h, Bool.and_false]) _ hl
  unfold acctB; rw [this]; simp
theorem no_nte {a : Ac} {k : Nat} {t : Nt} (hk : a.ns[k]? = some t) (h : noteOK a.start t = false) : acctB a = false := by
  have : a.ns.all (noteOK a.start) = false := all_stop hk h
  unfold acctB; rw [this]; simp
theorem no_dsp {a : Ac} {k : Nat} {t : Dp} (hk : a.ds[k]? = some t) (h : dspOK a.start (prv a.ds k) t = false) : acctB a = false := by
  have hl := (List.getElem?_eq_some_iff.1 hk).1
  have : pairsB (dspOK a.start) a.ds = false := pairsT_false (by rw [pairsT_succ hk, h, Bool.and_false]) _ hl
  unfold acctB; rw [this]; simp
theorem prv_pos {α : Type} {l : List α} {k : Nat} (h : 0 < k) : prv l k = l[k - 1]? := by
  obtain ⟨j, rfl⟩ : ∃ j, k = j + 1 := ⟨k - 1, by omega⟩
  rfl
theorem nums_or (a : Ac) : (!inD a.start 0 131072 || !inD a.fig 0 1073741824 || !inD a.daily 0 100000 || !inD a.stand 0 100000 || !inD (a.ts.length : Int) 1 6 || decide (12 < (a.bs.length : Int)) || decide (24 < (a.ns.length : Int)) || decide (4 < (a.ds.length : Int))) = !(numsB a && sizesB a) := by
  have d : ∀ x y : Int, decide (x < y) = !decide (y ≤ x) := fun x y => by by_cases h : x < y <;> by_cases h2 : y ≤ x <;> simp [h, h2] <;> omega
  have c : ∀ n m : Nat, decide ((n : Int) ≤ (m : Int)) = decide (n ≤ m) := fun n m => by simp
  have c12 := c a.bs.length 12
  have c24 := c a.ns.length 24
  have c4 := c a.ds.length 4
  simp only [d]
  unfold numsB sizesB
  rw [← c12, ← c24, ← c4]
  simp only [Bool.not_and, Bool.or_assoc]
  rfl
set_option maxRecDepth 20000 in
set_option maxHeartbeats 32000000 in
/-- meterworks/meterworksref13.Account -/
theorem c_ref_Account (a : Ac) : Contract Try.prog 23 [acV a] (.bool (acctB a)) [] := by
  have hor := nums_or a
  refine con_of follows_mixed Try.func23 rfl (by simp only [List.length_cons, List.length_nil, Try.ntmps23]; omega) (by kernel_rfl) rfl ?_
  refine Exec.reg ?_
  iterate 2 (refine Run.o1 (by simp only [go_sem, gt_iff_lt, ge_iff_le] <;> rfl) ?_)
  refine Run.nil ?_
  refine Exec.assocS ?_
  refine Exec.reg ?_
  iterate 2 (refine Run.o1 (by simp only [go_sem, gt_iff_lt, ge_iff_le] <;> rfl) ?_)
  refine Run.c1 (c_meterworksref13_in _ _ _) (by simp only [go_sem, gt_iff_lt, ge_iff_le] <;> rfl) (by simp only [go_sem, gt_iff_lt, ge_iff_le] <;> rfl) ?_
  iterate 2 (refine Run.o1 (by simp only [go_sem, gt_iff_lt, ge_iff_le] <;> rfl) ?_)
  iterate 2 (refine Run.gop (by simp only [go_sem] <;> rfl) (by simp only [go_sem, gt_iff_lt, ge_iff_le] <;> rfl) (by simp only [go_sem] <;> rfl) ?_)
  refine Run.gcal (by simp only [go_sem] <;> rfl) (c_meterworksref13_in _ _ _) (by simp only [go_sem]) (by simp only [go_sem, gt_iff_lt, ge_iff_le] <;> rfl) (by exact ⟨by first | exact WkR.pure rfl | exact WkR.nil _ | exact WkR.int (by first | omega | (simp; done) | (simp; omega)), by first | exact WkR.pure rfl | exact WkR.nil _ | exact WkR.int (by first | omega | (simp; done) | (simp; omega)), by first | exact WkR.pure rfl | exact WkR.nil _ | exact WkR.int (by first | omega | (simp; done) | (simp; omega)), trivial⟩) (by simp only [go_sem, gt_iff_lt, ge_iff_le] <;> rfl) ?_
  refine Run.gop (by simp only [go_sem] <;> rfl) (by simp only [go_sem, gt_iff_lt, ge_iff_le] <;> rfl) (by simp only [go_sem] <;> rfl) ?_
  iterate 2 (refine Run.o1 (by simp only [go_sem, gt_iff_lt, ge_iff_le] <;> rfl) ?_)
  iterate 2 (refine Run.gop (by simp only [go_sem] <;> rfl) (by simp only [go_sem, gt_iff_lt, ge_iff_le] <;> rfl) (by simp only [go_sem] <;> rfl) ?_)
  refine Run.gcal (by simp only [go_sem] <;> rfl) (c_meterworksref13_in _ _ _) (by simp only [go_sem]) (by simp only [go_sem, gt_iff_lt, ge_iff_le] <;> rfl) (by exact ⟨by first | exact WkR.pure rfl | exact WkR.nil _ | exact WkR.int (by first | omega | (simp; done) | (simp; omega)), by first | exact WkR.pure rfl | exact WkR.nil _ | exact WkR.int (by first | omega | (simp; done) | (simp; omega)), by first | exact WkR.pure rfl | exact WkR.nil _ | exact WkR.int (by first | omega | (simp; done) | (simp; omega)), trivial⟩) (by simp only [go_sem, gt_iff_lt, ge_iff_le] <;> rfl) ?_
  refine Run.gop (by simp only [go_sem] <;> rfl) (by simp only [go_sem, gt_iff_lt, ge_iff_le] <;> rfl) (by simp only [go_sem] <;> rfl) ?_
  iterate 2 (refine Run.o1 (by simp only [go_sem, gt_iff_lt, ge_iff_le] <;> rfl) ?_)
  iterate 2 (refine Run.gop (by simp only [go_sem] <;> rfl) (by simp only [go_sem, gt_iff_lt, ge_iff_le] <;> rfl) (by simp only [go_sem] <;> rfl) ?_)
  refine Run.gcal (by simp only [go_sem] <;> rfl) (c_meterworksref13_in _ _ _) (by simp only [go_sem]) (by simp only [go_sem, gt_iff_lt, ge_iff_le] <;> rfl) (by exact ⟨by first | exact WkR.pure rfl | exact WkR.nil _ | exact WkR.int (by first | omega | (simp; done) | (simp; omega)), by first | exact WkR.pure rfl | exact WkR.nil _ | exact WkR.int (by first | omega | (simp; done) | (simp; omega)), by first | exact WkR.pure rfl | exact WkR.nil _ | exact WkR.int (by first | omega | (simp; done) | (simp; omega)), trivial⟩) (by simp only [go_sem, gt_iff_lt, ge_iff_le] <;> rfl) ?_
  refine Run.gop (by simp only [go_sem] <;> rfl) (by simp only [go_sem, gt_iff_lt, ge_iff_le] <;> rfl) (by simp only [go_sem] <;> rfl) ?_
  iterate 2 (refine Run.o1 (by simp only [go_sem, gt_iff_lt, ge_iff_le] <;> rfl) ?_)
  iterate 3 (refine Run.gop (by simp only [go_sem] <;> rfl) (by simp only [go_sem, gt_iff_lt, ge_iff_le] <;> rfl) (by simp only [go_sem] <;> rfl) ?_)
  refine Run.gcal (by simp only [go_sem] <;> rfl) (c_meterworksref13_in _ _ _) (by simp only [go_sem]) (by simp only [go_sem, gt_iff_lt, ge_iff_le] <;> rfl) (by exact ⟨by first | exact WkR.pure rfl | exact WkR.nil _ | exact WkR.int (by first | omega | (simp; done) | (simp; omega)), by first | exact WkR.pure rfl | exact WkR.nil _ | exact WkR.int (by first | omega | (simp; done) | (simp; omega)), by first | exact WkR.pure rfl | exact WkR.nil _ | exact WkR.int (by first | omega | (simp; done) | (simp; omega)), trivial⟩) (by simp only [go_sem, gt_iff_lt, ge_iff_le] <;> rfl) ?_
  refine Run.gop (by simp only [go_sem] <;> rfl) (by simp only [go_sem, gt_iff_lt, ge_iff_le] <;> rfl) (by simp only [go_sem] <;> rfl) ?_
  iterate 2 (refine Run.o1 (by simp only [go_sem, gt_iff_lt, ge_iff_le] <;> rfl) ?_)
  iterate 4 (refine Run.gop (by simp only [go_sem] <;> rfl) (by simp only [go_sem, gt_iff_lt, ge_iff_le] <;> rfl) (by simp only [go_sem] <;> rfl) ?_)
  iterate 2 (refine Run.o1 (by simp only [go_sem, gt_iff_lt, ge_iff_le] <;> rfl) ?_)
  iterate 4 (refine Run.gop (by simp only [go_sem] <;> rfl) (by simp only [go_sem, gt_iff_lt, ge_iff_le] <;> rfl) (by simp only [go_sem] <;> rfl) ?_)
  iterate 2 (refine Run.o1 (by simp only [go_sem, gt_iff_lt, ge_iff_le] <;> rfl) ?_)
  iterate 4 (refine Run.gop (by simp only [go_sem] <;> rfl) (by simp only [go_sem, gt_iff_lt, ge_iff_le] <;> rfl) (by simp only [go_sem] <;> rfl) ?_)
  refine Run.o1 (by simp only [go_sem, gt_iff_lt, ge_iff_le] <;> rfl) ?_
  refine Run.nil ?_
  refine Exec.cndS (by simp only [go_sem, gt_iff_lt, ge_iff_le] <;> rfl) (fun hb56 => ?_) (fun hb56 => ?_)
  · skip
    have hno : acctB a = false := by
      have h := hb56
      rw [hor] at h
      unfold acctB
      rw [Bool.not_eq_true'] at h
      rw [h]; simp
    refine Exec.assocS ?_
    refine Exec.reg ?_
    refine Run.o1 (by simp only [go_sem, gt_iff_lt, ge_iff_le, hno] <;> rfl) ?_
    refine Run.nil ?_
    refine Exec.retS ?_
    exact Ends.fin [] (rs := [.tmp 2]) rfl (by simp only [go_sem, gt_iff_lt, ge_iff_le, hno] <;> rfl) (by simp only [go_sem, gt_iff_lt, ge_iff_le, hno] <;> first | rfl | exact eqz)
  · skip
    have hns : (numsB a && sizesB a) = true := by have h := hb56; rw [hor] at h; simpa using h
    rw [Bool.and_eq_true] at hns
    obtain ⟨hn, hz⟩ := hns
    have hsz := sizes_iff.1 hz
    have hst : 0 ≤ a.start ∧ a.start ≤ 131072 := by
      have hn2 := hn
      unfold numsB at hn2
      simp only [Bool.and_eq_true, inD_iff] at hn2
      exact hn2.1.1.1
    refine Exec.skipS ?_
    refine Exec.assocS ?_
    refine Exec.reg ?_
    refine Run.o1 (by simp only [go_sem, gt_iff_lt, ge_iff_le] <;> rfl) ?_
    refine Run.nil ?_
    refine Exec.blk ?_
    refine Exec.forA [1, 3] [1] (a.ts.length) (fun k => [.slot 3 (.int k)]) (fun k => pairsT trfOK a.ts k = true) (fun k => by simp only [go_sem] <;> rfl) (by simp only [go_sem, gt_iff_lt, ge_iff_le] <;> rfl) ?_ (fun k hk hX => ?_)
    · rfl
    · skip
      refine Exec.assocS ?_
      refine Exec.reg ?_
      iterate 5 (refine Run.o1 (by simp only [go_sem, gt_iff_lt, ge_iff_le] <;> rfl) ?_)
      refine Run.nil ?_
      refine Exec.cndS (by simp only [go_sem, gt_iff_lt, ge_iff_le] <;> rfl) (fun hb61 => ?_) (fun hb61 => ?_)
      · skip
        have hlt := lt_of_dec hb61
        have hk1 := tr_get hlt
        refine Exec.skipS ?_
        refine Exec.blk ?_
        refine Exec.reg ?_
        iterate 3 (refine Run.o1 (by simp only [go_sem, gt_iff_lt, ge_iff_le, hk1] <;> rfl) ?_)
        refine Run.o1 (by simp only [go_sem, gt_iff_lt, ge_iff_le, hk1]; (try simp (disch := omega) only [if_pos]); (try simp only [go_sem, gt_iff_lt, ge_iff_le, hk1])<;> rfl) ?_
        iterate 3 (refine Run.o1 (by simp only [go_sem, gt_iff_lt, ge_iff_le, hk1] <;> rfl) ?_)
        refine Run.nil ?_
        by_cases h1 : inD (a.ts.getD k default).fr 0 131072 = true
        · skip
          by_cases h2 : inD (a.ts.getD k default).pence 0 10000 = true
          · skip
            by_cases h3 : k = 0
            · skip
              subst h3
              have g1 : decide (((0 : Nat) : Int) > 0) = false := rfl
              have g2 : (((0 : Nat) : Int) == 0) = true := rfl
              by_cases h4 : (a.ts.getD 0 default).fr = 0
              · skip
                have hok : trfOK (prv a.ts 0) (a.ts.getD 0 default) = true := by unfold trfOK; rw [h1, h2]; exact decide_eq_true h4
                have g4 : ((a.ts.getD 0 default).fr != 0) = false := by simpa using h4
                refine Exec.opk 37 ?_
                iterate 2 (refine OpenK.o1 (by simp only [go_sem, gt_iff_lt, ge_iff_le, hk1, h1, h2, g1, g2, g4] <;> rfl) ?_)
                refine OpenK.cal (c_meterworksref13_in _ _ _) (by simp only [go_sem]) (by simp only [go_sem, gt_iff_lt, ge_iff_le, hk1, h1, h2, g1, g2, g4] <;> rfl) (by exact ⟨by first | exact WkR.pure rfl | exact WkR.nil _ | exact WkR.int (by first | omega | (simp; done) | (simp; omega)), by first | exact WkR.pure rfl | exact WkR.nil _ | exact WkR.int (by first | omega | (simp; done) | (simp; omega)), by first | exact WkR.pure rfl | exact WkR.nil _ | exact WkR.int (by first | omega | (simp; done) | (simp; omega)), trivial⟩) (fr0) (by simp only [go_sem, gt_iff_lt, ge_iff_le, hk1, h1, h2, g1, g2, g4] <;> rfl) (by simp only [go_sem] <;> rfl) (by simp only [go_sem] <;> rfl) ?_
                iterate 2 (refine OpenK.o1 (by simp only [go_sem, gt_iff_lt, ge_iff_le, hk1, h1, h2, g1, g2, g4] <;> rfl) ?_)
                iterate 2 (refine OpenK.y1 (by simp only [go_sem, gt_iff_lt, ge_iff_le, hk1, h1, h2, g1, g2, g4] <;> rfl) ?_)
                refine OpenK.calw (by simp only [go_sem] <;> rfl) (c_meterworksref13_in _ _ _) (by simp only [go_sem]) (by simp only [go_sem, gt_iff_lt, ge_iff_le, hk1, h1, h2, g1, g2, g4] <;> rfl) (by simp only [go_sem, gt_iff_lt, ge_iff_le, hk1, h1, h2, g1, g2, g4] <;> rfl) (by exact ⟨by first | exact WkR.pure rfl | exact WkR.nil _ | exact WkR.int (by first | omega | (simp; done) | (simp; omega)), by first | exact WkR.pure rfl | exact WkR.nil _ | exact WkR.int (by first | omega | (simp; done) | (simp; omega)), by first | exact WkR.pure rfl | exact WkR.nil _ | exact WkR.int (by first | omega | (simp; done) | (simp; omega)), trivial⟩) (fr0) (by simp only [go_sem, gt_iff_lt, ge_iff_le, hk1, h1, h2, g1, g2, g4] <;> rfl) (by simp only [go_sem] <;> rfl) (by simp only [go_sem] <;> rfl) ?_
                refine OpenK.y1 (by simp only [go_sem, gt_iff_lt, ge_iff_le, hk1, h1, h2, g1, g2, g4] <;> rfl) ?_
                iterate 2 (refine OpenK.o1 (by simp only [go_sem, gt_iff_lt, ge_iff_le, hk1, h1, h2, g1, g2, g4] <;> rfl) ?_)
                iterate 7 (refine OpenK.y1 (by simp only [go_sem, gt_iff_lt, ge_iff_le, hk1, h1, h2, g1, g2, g4] <;> rfl) ?_)
                iterate 2 (refine OpenK.o1 (by simp only [go_sem, gt_iff_lt, ge_iff_le, hk1, h1, h2, g1, g2, g4] <;> rfl) ?_)
                iterate 3 (refine OpenK.y1 (by simp only [go_sem, gt_iff_lt, ge_iff_le, hk1, h1, h2, g1, g2, g4] <;> rfl) ?_)
                iterate 10 (refine OpenK.s ?_)
                refine OpenK.y1 (by simp only [go_sem, gt_iff_lt, ge_iff_le, hk1, h1, h2, g1, g2, g4] <;> rfl) ?_
                refine OpenK.o1 (by simp only [go_sem, gt_iff_lt, ge_iff_le, hk1, h1, h2, g1, g2, g4] <;> rfl) ?_
                refine OpenK.nil (OpenE.finT (by kernel_rfl) (by kernel_rfl) (by kernel_rfl) ?_)
                refine Exec.cnd (by simp only [go_sem, gt_iff_lt, ge_iff_le, hk1, h1, h2, g1, g2, g4] <;> rfl) (fun hb103 => ?_) (fun hb103 => ?_)
                · exact absurd hb103 (by simp)
                · skip
                  refine BlkK.nrm ?_
                  refine Exec.reg1 ?_
                  refine Run.o1 (by simp only [go_sem, gt_iff_lt, ge_iff_le, hk1, h1, h2, g1, g2, g4] <;> rfl) ?_
                  refine Run.o1 (by simp only [go_sem, gt_iff_lt, ge_iff_le, hk1, h1, h2, g1, g2, g4]; (try simp (disch := omega) only [IntWalk.i64_in, IntWalk.u64_in, if_neg, if_pos])<;> rfl) ?_
                  refine Run.o1 (by simp only [go_sem, gt_iff_lt, ge_iff_le, hk1, h1, h2, g1, g2, g4] <;> rfl) ?_
                  refine Run.nil ?_
                  refine ForK.nxt ?_ ?_ ?_
                  · omega
                  · exact Ghost.kp [1, 3] [1] (by simp only [go_sem, gt_iff_lt, ge_iff_le, hk1, h1, h2, g1, g2, g4] <;> first | exact eqz | rfl)
                  · rw [pairsT_succ hk1, hX, Bool.true_and]; exact hok
              · skip
                have hno : acctB a = false := no_trf hk1 (by unfold trfOK; rw [h1, h2]; exact decide_eq_false h4)
                have g4 : ((a.ts.getD 0 default).fr != 0) = true := by simpa using h4
                refine Exec.opk 37 ?_
                iterate 2 (refine OpenK.o1 (by simp only [go_sem, gt_iff_lt, ge_iff_le, hk1, h1, h2, g1, g2, g4, hno] <;> rfl) ?_)
                refine OpenK.cal (c_meterworksref13_in _ _ _) (by simp only [go_sem]) (by simp only [go_sem, gt_iff_lt, ge_iff_le, hk1, h1, h2, g1, g2, g4, hno] <;> rfl) (by exact ⟨by first | exact WkR.pure rfl | exact WkR.nil _ | exact WkR.int (by first | omega | (simp; done) | (simp; omega)), by first | exact WkR.pure rfl | exact WkR.nil _ | exact WkR.int (by first | omega | (simp; done) | (simp; omega)), by first | exact WkR.pure rfl | exact WkR.nil _ | exact WkR.int (by first | omega | (simp; done) | (simp; omega)), trivial⟩) (fr0) (by simp only [go_sem, gt_iff_lt, ge_iff_le, hk1, h1, h2, g1, g2, g4, hno] <;> rfl) (by simp only [go_sem] <;> rfl) (by simp only [go_sem] <;> rfl) ?_
                iterate 2 (refine OpenK.o1 (by simp only [go_sem, gt_iff_lt, ge_iff_le, hk1, h1, h2, g1, g2, g4, hno] <;> rfl) ?_)
                iterate 2 (refine OpenK.y1 (by simp only [go_sem, gt_iff_lt, ge_iff_le, hk1, h1, h2, g1, g2, g4, hno] <;> rfl) ?_)
                refine OpenK.calw (by simp only [go_sem] <;> rfl) (c_meterworksref13_in _ _ _) (by simp only [go_sem]) (by simp only [go_sem, gt_iff_lt, ge_iff_le, hk1, h1, h2, g1, g2, g4, hno] <;> rfl) (by simp only [go_sem, gt_iff_lt, ge_iff_le, hk1, h1, h2, g1, g2, g4, hno] <;> rfl) (by exact ⟨by first | exact WkR.pure rfl | exact WkR.nil _ | exact WkR.int (by first | omega | (simp; done) | (simp; omega)), by first | exact WkR.pure rfl | exact WkR.nil _ | exact WkR.int (by first | omega | (simp; done) | (simp; omega)), by first | exact WkR.pure rfl | exact WkR.nil _ | exact WkR.int (by first | omega | (simp; done) | (simp; omega)), trivial⟩) (fr0) (by simp only [go_sem, gt_iff_lt, ge_iff_le, hk1, h1, h2, g1, g2, g4, hno] <;> rfl) (by simp only [go_sem] <;> rfl) (by simp only [go_sem] <;> rfl) ?_
                refine OpenK.y1 (by simp only [go_sem, gt_iff_lt, ge_iff_le, hk1, h1, h2, g1, g2, g4, hno] <;> rfl) ?_
                iterate 2 (refine OpenK.o1 (by simp only [go_sem, gt_iff_lt, ge_iff_le, hk1, h1, h2, g1, g2, g4, hno] <;> rfl) ?_)
                iterate 7 (refine OpenK.y1 (by simp only [go_sem, gt_iff_lt, ge_iff_le, hk1, h1, h2, g1, g2, g4, hno] <;> rfl) ?_)
                iterate 2 (refine OpenK.o1 (by simp only [go_sem, gt_iff_lt, ge_iff_le, hk1, h1, h2, g1, g2, g4, hno] <;> rfl) ?_)
                iterate 14 (refine OpenK.s ?_)
                refine OpenK.o1 (by simp only [go_sem, gt_iff_lt, ge_iff_le, hk1, h1, h2, g1, g2, g4, hno] <;> rfl) ?_
                refine OpenK.nil (OpenE.finT (by kernel_rfl) (by kernel_rfl) (by kernel_rfl) ?_)
                refine Exec.cnd (by simp only [go_sem, gt_iff_lt, ge_iff_le, hk1, h1, h2, g1, g2, g4, hno] <;> rfl) (fun hb103 => ?_) (fun hb103 => ?_)
                · skip
                  refine Exec.reg ?_
                  refine Run.o1 (by simp only [go_sem, gt_iff_lt, ge_iff_le, hk1, h1, h2, g1, g2, g4, hno] <;> rfl) ?_
                  refine Run.nil ?_
                  refine BlkK.ret ?_
                  refine ForK.ret ?_
                  refine BlkK.ret ?_
                  exact Ends.fin [] (rs := [.tmp 2]) rfl (by simp only [go_sem, gt_iff_lt, ge_iff_le, hk1, h1, h2, g1, g2, g4, hno] <;> rfl) (by simp only [go_sem, gt_iff_lt, ge_iff_le, hk1, h1, h2, g1, g2, g4, hno] <;> first | rfl | exact eqz)
                · exact absurd hb103 (by simp)
            · skip
              have g1 : decide ((k : Int) > 0) = true := decide_eq_true (by omega)
              have g2 : ((k : Int) == 0) = false := by simpa using h3
              have hpv := prv_pos (l := a.ts) (by omega : 0 < k)
              have hpk := tr_get (l := a.ts) (i := k - 1) (by omega)
              have t1 : ((k : Int) - 1).toNat = k - 1 := by omega
              refine Exec.opk 37 ?_
              iterate 2 (refine OpenK.o1 (by simp only [go_sem, gt_iff_lt, ge_iff_le, hk1, h1, h2, g1, g2, hpk, t1] <;> rfl) ?_)
              refine OpenK.cal (c_meterworksref13_in _ _ _) (by simp only [go_sem]) (by simp only [go_sem, gt_iff_lt, ge_iff_le, hk1, h1, h2, g1, g2, hpk, t1] <;> rfl) (by exact ⟨by first | exact WkR.pure rfl | exact WkR.nil _ | exact WkR.int (by first | omega | (simp; done) | (simp; omega)), by first | exact WkR.pure rfl | exact WkR.nil _ | exact WkR.int (by first | omega | (simp; done) | (simp; omega)), by first | exact WkR.pure rfl | exact WkR.nil _ | exact WkR.int (by first | omega | (simp; done) | (simp; omega)), trivial⟩) (fr0) (by simp only [go_sem, gt_iff_lt, ge_iff_le, hk1, h1, h2, g1, g2, hpk, t1] <;> rfl) (by simp only [go_sem] <;> rfl) (by simp only [go_sem] <;> rfl) ?_
              iterate 2 (refine OpenK.o1 (by simp only [go_sem, gt_iff_lt, ge_iff_le, hk1, h1, h2, g1, g2, hpk, t1] <;> rfl) ?_)
              iterate 2 (refine OpenK.y1 (by simp only [go_sem, gt_iff_lt, ge_iff_le, hk1, h1, h2, g1, g2, hpk, t1] <;> rfl) ?_)
              refine OpenK.calw (by simp only [go_sem] <;> rfl) (c_meterworksref13_in _ _ _) (by simp only [go_sem]) (by simp only [go_sem, gt_iff_lt, ge_iff_le, hk1, h1, h2, g1, g2, hpk, t1] <;> rfl) (by simp only [go_sem, gt_iff_lt, ge_iff_le, hk1, h1, h2, g1, g2, hpk, t1] <;> rfl) (by exact ⟨by first | exact WkR.pure rfl | exact WkR.nil _ | exact WkR.int (by first | omega | (simp; done) | (simp; omega)), by first | exact WkR.pure rfl | exact WkR.nil _ | exact WkR.int (by first | omega | (simp; done) | (simp; omega)), by first | exact WkR.pure rfl | exact WkR.nil _ | exact WkR.int (by first | omega | (simp; done) | (simp; omega)), trivial⟩) (fr0) (by simp only [go_sem, gt_iff_lt, ge_iff_le, hk1, h1, h2, g1, g2, hpk, t1] <;> rfl) (by simp only [go_sem] <;> rfl) (by simp only [go_sem] <;> rfl) ?_
              refine OpenK.y1 (by simp only [go_sem, gt_iff_lt, ge_iff_le, hk1, h1, h2, g1, g2, hpk, t1] <;> rfl) ?_
              iterate 2 (refine OpenK.o1 (by simp only [go_sem, gt_iff_lt, ge_iff_le, hk1, h1, h2, g1, g2, hpk, t1] <;> rfl) ?_)
              iterate 3 (refine OpenK.y1 (by simp only [go_sem, gt_iff_lt, ge_iff_le, hk1, h1, h2, g1, g2, hpk, t1] <;> rfl) ?_)
              iterate 3 (refine OpenK.s ?_)
              refine OpenK.y1 (by simp only [go_sem, gt_iff_lt, ge_iff_le, hk1, h1, h2, g1, g2, hpk, t1] <;> rfl) ?_
              iterate 2 (refine OpenK.o1 (by simp only [go_sem, gt_iff_lt, ge_iff_le, hk1, h1, h2, g1, g2, hpk, t1] <;> rfl) ?_)
              iterate 8 (refine OpenK.y1 (by simp only [go_sem, gt_iff_lt, ge_iff_le, hk1, h1, h2, g1, g2, hpk, t1] <;> rfl) ?_)
              refine OpenK.y1 (by simp only [go_sem, gt_iff_lt, ge_iff_le, hk1, h1, h2, g1, g2, hpk, t1]; (try simp (disch := omega) only [IntWalk.i64_in, IntWalk.u64_in, if_neg, if_pos])<;> rfl) ?_
              refine OpenK.y1 (by simp only [go_sem, gt_iff_lt, ge_iff_le, hk1, h1, h2, g1, g2, hpk, t1]; (try simp (disch := omega) only [if_pos]); (try simp only [go_sem, gt_iff_lt, ge_iff_le, hk1, h1, h2, g1, g2, hpk, t1])<;> rfl) ?_
              iterate 4 (refine OpenK.y1 (by simp only [go_sem, gt_iff_lt, ge_iff_le, hk1, h1, h2, g1, g2, hpk, t1] <;> rfl) ?_)
              refine OpenK.o1 (by simp only [go_sem, gt_iff_lt, ge_iff_le, hk1, h1, h2, g1, g2, hpk, t1] <;> rfl) ?_
              refine OpenK.nil (OpenE.finT (by kernel_rfl) (by kernel_rfl) (by kernel_rfl) ?_)
              refine Exec.cnd (by simp only [go_sem, gt_iff_lt, ge_iff_le, hk1, h1, h2, g1, g2, hpk, t1] <;> rfl) (fun hb103 => ?_) (fun hb103 => ?_)
              · skip
                have hno : acctB a = false := no_trf hk1 (by
                  unfold trfOK
                  rw [h1, h2, hpv, hpk]
                  exact decide_eq_false (by have := of_decide_eq_true hb103; omega))
                refine Exec.reg ?_
                refine Run.o1 (by simp only [go_sem, gt_iff_lt, ge_iff_le, hk1, h1, h2, g1, g2, hpk, t1, hno] <;> rfl) ?_
                refine Run.nil ?_
                refine BlkK.ret ?_
                refine ForK.ret ?_
                refine BlkK.ret ?_
                exact Ends.fin [] (rs := [.tmp 2]) rfl (by simp only [go_sem, gt_iff_lt, ge_iff_le, hk1, h1, h2, g1, g2, hpk, t1, hno] <;> rfl) (by simp only [go_sem, gt_iff_lt, ge_iff_le, hk1, h1, h2, g1, g2, hpk, t1, hno] <;> first | rfl | exact eqz)
              · skip
                have hok : trfOK (prv a.ts k) (a.ts.getD k default) = true := by
                  unfold trfOK
                  rw [h1, h2, hpv, hpk]
                  exact decide_eq_true (by have := of_decide_eq_false hb103; omega)
                refine BlkK.nrm ?_
                refine Exec.reg1 ?_
                refine Run.o1 (by simp only [go_sem, gt_iff_lt, ge_iff_le, hk1, h1, h2, g1, g2, hpk, t1] <;> rfl) ?_
                refine Run.o1 (by simp only [go_sem, gt_iff_lt, ge_iff_le, hk1, h1, h2, g1, g2, hpk, t1]; (try simp (disch := omega) only [IntWalk.i64_in, IntWalk.u64_in, if_neg, if_pos])<;> rfl) ?_
                refine Run.o1 (by simp only [go_sem, gt_iff_lt, ge_iff_le, hk1, h1, h2, g1, g2, hpk, t1] <;> rfl) ?_
                refine Run.nil ?_
                refine ForK.nxt ?_ ?_ ?_
                · omega
                · exact Ghost.kp [1, 3] [1] (by simp only [go_sem, gt_iff_lt, ge_iff_le, hk1, h1, h2, g1, g2, hpk, t1] <;> first | exact eqz | rfl)
                · rw [pairsT_succ hk1, hX, Bool.true_and]; exact hok
          · skip
            have h2 : inD (a.ts.getD k default).pence 0 10000 = false := by simpa using h2
            have hno : acctB a = false := no_trf hk1 (by unfold trfOK; rw [h2, Bool.and_false, Bool.false_and])
            refine Exec.opk 37 ?_
            iterate 2 (refine OpenK.o1 (by simp only [go_sem, gt_iff_lt, ge_iff_le, hk1, h1, h2, hno] <;> rfl) ?_)
            refine OpenK.cal (c_meterworksref13_in _ _ _) (by simp only [go_sem]) (by simp only [go_sem, gt_iff_lt, ge_iff_le, hk1, h1, h2, hno] <;> rfl) (by exact ⟨by first | exact WkR.pure rfl | exact WkR.nil _ | exact WkR.int (by first | omega | (simp; done) | (simp; omega)), by first | exact WkR.pure rfl | exact WkR.nil _ | exact WkR.int (by first | omega | (simp; done) | (simp; omega)), by first | exact WkR.pure rfl | exact WkR.nil _ | exact WkR.int (by first | omega | (simp; done) | (simp; omega)), trivial⟩) (fr0) (by simp only [go_sem, gt_iff_lt, ge_iff_le, hk1, h1, h2, hno] <;> rfl) (by simp only [go_sem] <;> rfl) (by simp only [go_sem] <;> rfl) ?_
            iterate 2 (refine OpenK.o1 (by simp only [go_sem, gt_iff_lt, ge_iff_le, hk1, h1, h2, hno] <;> rfl) ?_)
            iterate 2 (refine OpenK.y1 (by simp only [go_sem, gt_iff_lt, ge_iff_le, hk1, h1, h2, hno] <;> rfl) ?_)
            refine OpenK.calw (by simp only [go_sem] <;> rfl) (c_meterworksref13_in _ _ _) (by simp only [go_sem]) (by simp only [go_sem, gt_iff_lt, ge_iff_le, hk1, h1, h2, hno] <;> rfl) (by simp only [go_sem, gt_iff_lt, ge_iff_le, hk1, h1, h2, hno] <;> rfl) (by exact ⟨by first | exact WkR.pure rfl | exact WkR.nil _ | exact WkR.int (by first | omega | (simp; done) | (simp; omega)), by first | exact WkR.pure rfl | exact WkR.nil _ | exact WkR.int (by first | omega | (simp; done) | (simp; omega)), by first | exact WkR.pure rfl | exact WkR.nil _ | exact WkR.int (by first | omega | (simp; done) | (simp; omega)), trivial⟩) (fr0) (by simp only [go_sem, gt_iff_lt, ge_iff_le, hk1, h1, h2, hno] <;> rfl) (by simp only [go_sem] <;> rfl) (by simp only [go_sem] <;> rfl) ?_
            refine OpenK.y1 (by simp only [go_sem, gt_iff_lt, ge_iff_le, hk1, h1, h2, hno] <;> rfl) ?_
            iterate 2 (refine OpenK.o1 (by simp only [go_sem, gt_iff_lt, ge_iff_le, hk1, h1, h2, hno] <;> rfl) ?_)
            iterate 7 (refine OpenK.s ?_)
            iterate 2 (refine OpenK.o1 (by simp only [go_sem, gt_iff_lt, ge_iff_le, hk1, h1, h2, hno] <;> rfl) ?_)
            iterate 14 (refine OpenK.s ?_)
            refine OpenK.o1 (by simp only [go_sem, gt_iff_lt, ge_iff_le, hk1, h1, h2, hno] <;> rfl) ?_
            refine OpenK.nil (OpenE.finT (by kernel_rfl) (by kernel_rfl) (by kernel_rfl) ?_)
            refine Exec.cnd (by simp only [go_sem, gt_iff_lt, ge_iff_le, hk1, h1, h2, hno] <;> rfl) (fun hb103 => ?_) (fun hb103 => ?_)
            · skip
              refine Exec.reg ?_
              refine Run.o1 (by simp only [go_sem, gt_iff_lt, ge_iff_le, hk1, h1, h2, hno] <;> rfl) ?_
              refine Run.nil ?_
              refine BlkK.ret ?_
              refine ForK.ret ?_
              refine BlkK.ret ?_
              exact Ends.fin [] (rs := [.tmp 2]) rfl (by simp only [go_sem, gt_iff_lt, ge_iff_le, hk1, h1, h2, hno] <;> rfl) (by simp only [go_sem, gt_iff_lt, ge_iff_le, hk1, h1, h2, hno] <;> first | rfl | exact eqz)
            · exact absurd hb103 (by simp)
        · skip
          have h1 : inD (a.ts.getD k default).fr 0 131072 = false := by simpa using h1
          have hno : acctB a = false := no_trf hk1 (by unfold trfOK; rw [h1, Bool.false_and, Bool.false_and])
          refine Exec.opk 37 ?_
          iterate 2 (refine OpenK.o1 (by simp only [go_sem, gt_iff_lt, ge_iff_le, hk1, h1, hno] <;> rfl) ?_)
          refine OpenK.cal (c_meterworksref13_in _ _ _) (by simp only [go_sem]) (by simp only [go_sem, gt_iff_lt, ge_iff_le, hk1, h1, hno] <;> rfl) (by exact ⟨by first | exact WkR.pure rfl | exact WkR.nil _ | exact WkR.int (by first | omega | (simp; done) | (simp; omega)), by first | exact WkR.pure rfl | exact WkR.nil _ | exact WkR.int (by first | omega | (simp; done) | (simp; omega)), by first | exact WkR.pure rfl | exact WkR.nil _ | exact WkR.int (by first | omega | (simp; done) | (simp; omega)), trivial⟩) (fr0) (by simp only [go_sem, gt_iff_lt, ge_iff_le, hk1, h1, hno] <;> rfl) (by simp only [go_sem] <;> rfl) (by simp only [go_sem] <;> rfl) ?_
          iterate 2 (refine OpenK.o1 (by simp only [go_sem, gt_iff_lt, ge_iff_le, hk1, h1, hno] <;> rfl) ?_)
          iterate 4 (refine OpenK.s ?_)
          iterate 2 (refine OpenK.o1 (by simp only [go_sem, gt_iff_lt, ge_iff_le, hk1, h1, hno] <;> rfl) ?_)
          iterate 7 (refine OpenK.s ?_)
          iterate 2 (refine OpenK.o1 (by simp only [go_sem, gt_iff_lt, ge_iff_le, hk1, h1, hno] <;> rfl) ?_)
          iterate 14 (refine OpenK.s ?_)
          refine OpenK.o1 (by simp only [go_sem, gt_iff_lt, ge_iff_le, hk1, h1, hno] <;> rfl) ?_
          refine OpenK.nil (OpenE.finT (by kernel_rfl) (by kernel_rfl) (by kernel_rfl) ?_)
          refine Exec.cnd (by simp only [go_sem, gt_iff_lt, ge_iff_le, hk1, h1, hno] <;> rfl) (fun hb103 => ?_) (fun hb103 => ?_)
          · skip
            refine Exec.reg ?_
            refine Run.o1 (by simp only [go_sem, gt_iff_lt, ge_iff_le, hk1, h1, hno] <;> rfl) ?_
            refine Run.nil ?_
            refine BlkK.ret ?_
            refine ForK.ret ?_
            refine BlkK.ret ?_
            exact Ends.fin [] (rs := [.tmp 2]) rfl (by simp only [go_sem, gt_iff_lt, ge_iff_le, hk1, h1, hno] <;> rfl) (by simp only [go_sem, gt_iff_lt, ge_iff_le, hk1, h1, hno] <;> first | rfl | exact eqz)
          · exact absurd hb103 (by simp)
      · skip
        have hke : k = a.ts.length := by have := ge_of_dec hb61; omega
        subst hke
        have hT := hX
        refine Exec.exitS ?_
        refine ForK.ext ?_
        refine BlkK.hit ?_
        refine Exec.assocS ?_
        refine Exec.reg ?_
        refine Run.o1 (by simp only [go_sem, gt_iff_lt, ge_iff_le] <;> rfl) ?_
        refine Run.nil ?_
        refine Exec.blk ?_
        refine Exec.forA [1, 5] [1] (a.bs.length) (fun k => [.slot 5 (.int k)]) (fun k => pairsT (dayOK a.start) a.bs k = true) (fun k => by simp only [go_sem] <;> rfl) (by simp only [go_sem, gt_iff_lt, ge_iff_le] <;> rfl) ?_ (fun k hk hX => ?_)
        · rfl
        · skip
          refine Exec.assocS ?_
          refine Exec.reg ?_
          iterate 5 (refine Run.o1 (by simp only [go_sem, gt_iff_lt, ge_iff_le] <;> rfl) ?_)
          refine Run.nil ?_
          refine Exec.cndS (by simp only [go_sem, gt_iff_lt, ge_iff_le] <;> rfl) (fun hb108 => ?_) (fun hb108 => ?_)
          · skip
            have hlt := lt_of_dec hb108
            have hk1 := bs_get hlt
            refine Exec.skipS ?_
            refine Exec.blk ?_
            by_cases h1 : inD (a.bs.getD k 0) (a.start + 1) 131072 = true
            · skip
              by_cases h3 : k = 0
              · skip
                subst h3
                have g1 : decide (((0 : Nat) : Int) > 0) = false := rfl
                have hok : dayOK a.start (prv a.bs 0) (a.bs.getD 0 0) = true := by unfold dayOK; rw [h1]; rfl
                refine Exec.opk 30 ?_
                iterate 3 (refine OpenK.o1 (by simp only [go_sem, gt_iff_lt, ge_iff_le, hk1, h1, g1] <;> rfl) ?_)
                refine OpenK.o1 (by simp only [go_sem, gt_iff_lt, ge_iff_le, hk1, h1, g1]; (try simp (disch := omega) only [if_pos]); (try simp only [go_sem, gt_iff_lt, ge_iff_le, hk1, h1, g1])<;> rfl) ?_
                iterate 3 (refine OpenK.o1 (by simp only [go_sem, gt_iff_lt, ge_iff_le, hk1, h1, g1] <;> rfl) ?_)
                refine OpenK.o1 (by simp only [go_sem, gt_iff_lt, ge_iff_le, hk1, h1, g1]; (try simp (disch := omega) only [IntWalk.i64_in, IntWalk.u64_in, if_neg, if_pos])<;> rfl) ?_
                refine OpenK.cal (c_meterworksref13_in _ _ _) (by simp only [go_sem]) (by simp only [go_sem, gt_iff_lt, ge_iff_le, hk1, h1, g1] <;> rfl) (by exact ⟨by first | exact WkR.pure rfl | exact WkR.nil _ | exact WkR.int (by first | omega | (simp; done) | (simp; omega)), by first | exact WkR.pure rfl | exact WkR.nil _ | exact WkR.int (by first | omega | (simp; done) | (simp; omega)), by first | exact WkR.pure rfl | exact WkR.nil _ | exact WkR.int (by first | omega | (simp; done) | (simp; omega)), trivial⟩) (fr0) (by simp only [go_sem, gt_iff_lt, ge_iff_le, hk1, h1, g1] <;> rfl) (by simp only [go_sem] <;> rfl) (by simp only [go_sem] <;> rfl) ?_
                iterate 2 (refine OpenK.o1 (by simp only [go_sem, gt_iff_lt, ge_iff_le, hk1, h1, g1] <;> rfl) ?_)
                iterate 3 (refine OpenK.y1 (by simp only [go_sem, gt_iff_lt, ge_iff_le, hk1, h1, g1] <;> rfl) ?_)
                iterate 12 (refine OpenK.s ?_)
                refine OpenK.y1 (by simp only [go_sem, gt_iff_lt, ge_iff_le, hk1, h1, g1] <;> rfl) ?_
                refine OpenK.o1 (by simp only [go_sem, gt_iff_lt, ge_iff_le, hk1, h1, g1] <;> rfl) ?_
                refine OpenK.nil (OpenE.finT (by kernel_rfl) (by kernel_rfl) (by kernel_rfl) ?_)
                refine Exec.cnd (by simp only [go_sem, gt_iff_lt, ge_iff_le, hk1, h1, g1] <;> rfl) (fun hb138 => ?_) (fun hb138 => ?_)
                · exact absurd hb138 (by simp)
                · skip
                  refine BlkK.nrm ?_
                  refine Exec.reg1 ?_
                  refine Run.o1 (by simp only [go_sem, gt_iff_lt, ge_iff_le, hk1, h1, g1] <;> rfl) ?_
                  refine Run.o1 (by simp only [go_sem, gt_iff_lt, ge_iff_le, hk1, h1, g1]; (try simp (disch := omega) only [IntWalk.i64_in, IntWalk.u64_in, if_neg, if_pos])<;> rfl) ?_
                  refine Run.o1 (by simp only [go_sem, gt_iff_lt, ge_iff_le, hk1, h1, g1] <;> rfl) ?_
                  refine Run.nil ?_
                  refine ForK.nxt ?_ ?_ ?_
                  · omega
                  · exact Ghost.kp [1, 5] [1] (by simp only [go_sem, gt_iff_lt, ge_iff_le, hk1, h1, g1] <;> first | exact eqz | rfl)
                  · rw [pairsT_succ hk1, hX, Bool.true_and]; exact hok
              · skip
                have g1 : decide ((k : Int) > 0) = true := decide_eq_true (by omega)
                have hpv := prv_pos (l := a.bs) (by omega : 0 < k)
                have hpk := bs_get (l := a.bs) (i := k - 1) (by omega)
                have t1 : ((k : Int) - 1).toNat = k - 1 := by omega
                refine Exec.opk 30 ?_
                iterate 3 (refine OpenK.o1 (by simp only [go_sem, gt_iff_lt, ge_iff_le, hk1, h1, g1, hpk, t1] <;> rfl) ?_)
                refine OpenK.o1 (by simp only [go_sem, gt_iff_lt, ge_iff_le, hk1, h1, g1, hpk, t1]; (try simp (disch := omega) only [if_pos]); (try simp only [go_sem, gt_iff_lt, ge_iff_le, hk1, h1, g1, hpk, t1])<;> rfl) ?_
                iterate 3 (refine OpenK.o1 (by simp only [go_sem, gt_iff_lt, ge_iff_le, hk1, h1, g1, hpk, t1] <;> rfl) ?_)
                refine OpenK.o1 (by simp only [go_sem, gt_iff_lt, ge_iff_le, hk1, h1, g1, hpk, t1]; (try simp (disch := omega) only [IntWalk.i64_in, IntWalk.u64_in, if_neg, if_pos])<;> rfl) ?_
                refine OpenK.cal (c_meterworksref13_in _ _ _) (by simp only [go_sem]) (by simp only [go_sem, gt_iff_lt, ge_iff_le, hk1, h1, g1, hpk, t1] <;> rfl) (by exact ⟨by first | exact WkR.pure rfl | exact WkR.nil _ | exact WkR.int (by first | omega | (simp; done) | (simp; omega)), by first | exact WkR.pure rfl | exact WkR.nil _ | exact WkR.int (by first | omega | (simp; done) | (simp; omega)), by first | exact WkR.pure rfl | exact WkR.nil _ | exact WkR.int (by first | omega | (simp; done) | (simp; omega)), trivial⟩) (fr0) (by simp only [go_sem, gt_iff_lt, ge_iff_le, hk1, h1, g1, hpk, t1] <;> rfl) (by simp only [go_sem] <;> rfl) (by simp only [go_sem] <;> rfl) ?_
                iterate 2 (refine OpenK.o1 (by simp only [go_sem, gt_iff_lt, ge_iff_le, hk1, h1, g1, hpk, t1] <;> rfl) ?_)
                iterate 6 (refine OpenK.y1 (by simp only [go_sem, gt_iff_lt, ge_iff_le, hk1, h1, g1, hpk, t1] <;> rfl) ?_)
                refine OpenK.y1 (by simp only [go_sem, gt_iff_lt, ge_iff_le, hk1, h1, g1, hpk, t1]; (try simp (disch := omega) only [if_pos]); (try simp only [go_sem, gt_iff_lt, ge_iff_le, hk1, h1, g1, hpk, t1])<;> rfl) ?_
                iterate 4 (refine OpenK.y1 (by simp only [go_sem, gt_iff_lt, ge_iff_le, hk1, h1, g1, hpk, t1] <;> rfl) ?_)
                refine OpenK.y1 (by simp only [go_sem, gt_iff_lt, ge_iff_le, hk1, h1, g1, hpk, t1]; (try simp (disch := omega) only [IntWalk.i64_in, IntWalk.u64_in, if_neg, if_pos])<;> rfl) ?_
                refine OpenK.y1 (by simp only [go_sem, gt_iff_lt, ge_iff_le, hk1, h1, g1, hpk, t1]; (try simp (disch := omega) only [if_pos]); (try simp only [go_sem, gt_iff_lt, ge_iff_le, hk1, h1, g1, hpk, t1])<;> rfl) ?_
                iterate 3 (refine OpenK.y1 (by simp only [go_sem, gt_iff_lt, ge_iff_le, hk1, h1, g1, hpk, t1] <;> rfl) ?_)
                refine OpenK.o1 (by simp only [go_sem, gt_iff_lt, ge_iff_le, hk1, h1, g1, hpk, t1] <;> rfl) ?_
                refine OpenK.nil (OpenE.finT (by kernel_rfl) (by kernel_rfl) (by kernel_rfl) ?_)
                refine Exec.cnd (by simp only [go_sem, gt_iff_lt, ge_iff_le, hk1, h1, g1, hpk, t1] <;> rfl) (fun hb138 => ?_) (fun hb138 => ?_)
                · skip
                  have hno : acctB a = false := no_bil hk1 (by
                    unfold dayOK
                    rw [h1, hpv, hpk]
                    exact decide_eq_false (by have := of_decide_eq_true hb138; omega))
                  refine Exec.reg ?_
                  refine Run.o1 (by simp only [go_sem, gt_iff_lt, ge_iff_le, hk1, h1, g1, hpk, t1, hno] <;> rfl) ?_
                  refine Run.nil ?_
                  refine BlkK.ret ?_
                  refine ForK.ret ?_
                  refine BlkK.ret ?_
                  exact Ends.fin [] (rs := [.tmp 2]) rfl (by simp only [go_sem, gt_iff_lt, ge_iff_le, hk1, h1, g1, hpk, t1, hno] <;> rfl) (by simp only [go_sem, gt_iff_lt, ge_iff_le, hk1, h1, g1, hpk, t1, hno] <;> first | rfl | exact eqz)
                · skip
                  have hok : dayOK a.start (prv a.bs k) (a.bs.getD k 0) = true := by
                    unfold dayOK
                    rw [h1, hpv, hpk]
                    exact decide_eq_true (by have := of_decide_eq_false hb138; omega)
                  refine BlkK.nrm ?_
                  refine Exec.reg1 ?_
                  refine Run.o1 (by simp only [go_sem, gt_iff_lt, ge_iff_le, hk1, h1, g1, hpk, t1] <;> rfl) ?_
                  refine Run.o1 (by simp only [go_sem, gt_iff_lt, ge_iff_le, hk1, h1, g1, hpk, t1]; (try simp (disch := omega) only [IntWalk.i64_in, IntWalk.u64_in, if_neg, if_pos])<;> rfl) ?_
                  refine Run.o1 (by simp only [go_sem, gt_iff_lt, ge_iff_le, hk1, h1, g1, hpk, t1] <;> rfl) ?_
                  refine Run.nil ?_
                  refine ForK.nxt ?_ ?_ ?_
                  · omega
                  · exact Ghost.kp [1, 5] [1] (by simp only [go_sem, gt_iff_lt, ge_iff_le, hk1, h1, g1, hpk, t1] <;> first | exact eqz | rfl)
                  · rw [pairsT_succ hk1, hX, Bool.true_and]; exact hok
            · skip
              have h1 : inD (a.bs.getD k 0) (a.start + 1) 131072 = false := by simpa using h1
              have hno : acctB a = false := no_bil hk1 (by unfold dayOK; rw [h1, Bool.false_and])
              refine Exec.opk 30 ?_
              iterate 3 (refine OpenK.o1 (by simp only [go_sem, gt_iff_lt, ge_iff_le, hk1, h1, hno] <;> rfl) ?_)
              refine OpenK.o1 (by simp only [go_sem, gt_iff_lt, ge_iff_le, hk1, h1, hno]; (try simp (disch := omega) only [if_pos]); (try simp only [go_sem, gt_iff_lt, ge_iff_le, hk1, h1, hno])<;> rfl) ?_
              iterate 3 (refine OpenK.o1 (by simp only [go_sem, gt_iff_lt, ge_iff_le, hk1, h1, hno] <;> rfl) ?_)
              refine OpenK.o1 (by simp only [go_sem, gt_iff_lt, ge_iff_le, hk1, h1, hno]; (try simp (disch := omega) only [IntWalk.i64_in, IntWalk.u64_in, if_neg, if_pos])<;> rfl) ?_
              refine OpenK.cal (c_meterworksref13_in _ _ _) (by simp only [go_sem]) (by simp only [go_sem, gt_iff_lt, ge_iff_le, hk1, h1, hno] <;> rfl) (by exact ⟨by first | exact WkR.pure rfl | exact WkR.nil _ | exact WkR.int (by first | omega | (simp; done) | (simp; omega)), by first | exact WkR.pure rfl | exact WkR.nil _ | exact WkR.int (by first | omega | (simp; done) | (simp; omega)), by first | exact WkR.pure rfl | exact WkR.nil _ | exact WkR.int (by first | omega | (simp; done) | (simp; omega)), trivial⟩) (fr0) (by simp only [go_sem, gt_iff_lt, ge_iff_le, hk1, h1, hno] <;> rfl) (by simp only [go_sem] <;> rfl) (by simp only [go_sem] <;> rfl) ?_
              iterate 2 (refine OpenK.o1 (by simp only [go_sem, gt_iff_lt, ge_iff_le, hk1, h1, hno] <;> rfl) ?_)
              iterate 16 (refine OpenK.s ?_)
              refine OpenK.o1 (by simp only [go_sem, gt_iff_lt, ge_iff_le, hk1, h1, hno] <;> rfl) ?_
              refine OpenK.nil (OpenE.finT (by kernel_rfl) (by kernel_rfl) (by kernel_rfl) ?_)
              refine Exec.cnd (by simp only [go_sem, gt_iff_lt, ge_iff_le, hk1, h1, hno] <;> rfl) (fun hb138 => ?_) (fun hb138 => ?_)
              · skip
                refine Exec.reg ?_
                refine Run.o1 (by simp only [go_sem, gt_iff_lt, ge_iff_le, hk1, h1, hno] <;> rfl) ?_
                refine Run.nil ?_
                refine BlkK.ret ?_
                refine ForK.ret ?_
                refine BlkK.ret ?_
                exact Ends.fin [] (rs := [.tmp 2]) rfl (by simp only [go_sem, gt_iff_lt, ge_iff_le, hk1, h1, hno] <;> rfl) (by simp only [go_sem, gt_iff_lt, ge_iff_le, hk1, h1, hno] <;> first | rfl | exact eqz)
              · exact absurd hb138 (by simp)
          · skip
            have hke : k = a.bs.length := by have := ge_of_dec hb108; omega
            subst hke
            have hB := hX
            refine Exec.exitS ?_
            refine ForK.ext ?_
            refine BlkK.hit ?_
            refine Exec.assocS ?_
            refine Exec.reg ?_
            refine Run.o1 (by simp only [go_sem, gt_iff_lt, ge_iff_le] <;> rfl) ?_
            refine Run.nil ?_
            refine Exec.blk ?_
            refine Exec.forA [1, 6] [1] (a.ns.length) (fun k => [.slot 6 (.int k)]) (fun k => pairsT (fun _ n => noteOK a.start n) a.ns k = true) (fun k => by simp only [go_sem] <;> rfl) (by simp only [go_sem, gt_iff_lt, ge_iff_le] <;> rfl) ?_ (fun k hk hX => ?_)
            · rfl
            · skip
              refine Exec.assocS ?_
              refine Exec.reg ?_
              iterate 5 (refine Run.o1 (by simp only [go_sem, gt_iff_lt, ge_iff_le] <;> rfl) ?_)
              refine Run.nil ?_
              refine Exec.cndS (by simp only [go_sem, gt_iff_lt, ge_iff_le] <;> rfl) (fun hb143 => ?_) (fun hb143 => ?_)
              · skip
                have hlt := lt_of_dec hb143
                have hk1 := nt_get hlt
                refine Exec.skipS ?_
                refine Exec.blk ?_
                refine Exec.reg ?_
                iterate 3 (refine Run.o1 (by simp only [go_sem, gt_iff_lt, ge_iff_le, hk1] <;> rfl) ?_)
                refine Run.o1 (by simp only [go_sem, gt_iff_lt, ge_iff_le, hk1]; (try simp (disch := omega) only [if_pos]); (try simp only [go_sem, gt_iff_lt, ge_iff_le, hk1])<;> rfl) ?_
                iterate 3 (refine Run.o1 (by simp only [go_sem, gt_iff_lt, ge_iff_le, hk1] <;> rfl) ?_)
                refine Run.nil ?_
                refine Exec.reg ?_
                iterate 4 (refine Run.o1 (by simp only [go_sem, gt_iff_lt, ge_iff_le, hk1] <;> rfl) ?_)
                refine Run.o1 (by simp only [go_sem, gt_iff_lt, ge_iff_le, hk1]; (try simp (disch := omega) only [IntWalk.i64_in, IntWalk.u64_in, if_neg, if_pos])<;> rfl) ?_
                refine Run.c1 (c_meterworksref13_in _ _ _) (by simp only [go_sem, gt_iff_lt, ge_iff_le, hk1] <;> rfl) (by simp only [go_sem, gt_iff_lt, ge_iff_le, hk1] <;> rfl) ?_
                iterate 2 (refine Run.o1 (by simp only [go_sem, gt_iff_lt, ge_iff_le, hk1] <;> rfl) ?_)
                iterate 4 (refine Run.gop (by simp only [go_sem] <;> rfl) (by simp only [go_sem, gt_iff_lt, ge_iff_le, hk1] <;> rfl) (by simp only [go_sem] <;> rfl) ?_)
                refine Run.gcal (by simp only [go_sem] <;> rfl) (c_meterworksref13_in _ _ _) (by simp only [go_sem]) (by simp only [go_sem, gt_iff_lt, ge_iff_le, hk1] <;> rfl) (by exact ⟨by first | exact WkR.pure rfl | exact WkR.nil _ | exact WkR.int (by first | omega | (simp; done) | (simp; omega)), by first | exact WkR.pure rfl | exact WkR.nil _ | exact WkR.int (by first | omega | (simp; done) | (simp; omega)), by first | exact WkR.pure rfl | exact WkR.nil _ | exact WkR.int (by first | omega | (simp; done) | (simp; omega)), trivial⟩) (by simp only [go_sem, gt_iff_lt, ge_iff_le, hk1] <;> rfl) ?_
                refine Run.gop (by simp only [go_sem] <;> rfl) (by simp only [go_sem, gt_iff_lt, ge_iff_le, hk1] <;> rfl) (by simp only [go_sem] <;> rfl) ?_
                iterate 2 (refine Run.o1 (by simp only [go_sem, gt_iff_lt, ge_iff_le, hk1] <;> rfl) ?_)
                iterate 2 (refine Run.gop (by simp only [go_sem] <;> rfl) (by simp only [go_sem, gt_iff_lt, ge_iff_le, hk1] <;> rfl) (by simp only [go_sem] <;> rfl) ?_)
                refine Run.gcal (by simp only [go_sem] <;> rfl) (c_meterworksref13_in _ _ _) (by simp only [go_sem]) (by simp only [go_sem, gt_iff_lt, ge_iff_le, hk1] <;> rfl) (by exact ⟨by first | exact WkR.pure rfl | exact WkR.nil _ | exact WkR.int (by first | omega | (simp; done) | (simp; omega)), by first | exact WkR.pure rfl | exact WkR.nil _ | exact WkR.int (by first | omega | (simp; done) | (simp; omega)), by first | exact WkR.pure rfl | exact WkR.nil _ | exact WkR.int (by first | omega | (simp; done) | (simp; omega)), trivial⟩) (by simp only [go_sem, gt_iff_lt, ge_iff_le, hk1] <;> rfl) ?_
                refine Run.gop (by simp only [go_sem] <;> rfl) (by simp only [go_sem, gt_iff_lt, ge_iff_le, hk1] <;> rfl) (by simp only [go_sem] <;> rfl) ?_
                refine Run.o1 (by simp only [go_sem, gt_iff_lt, ge_iff_le, hk1] <;> rfl) ?_
                refine Run.nil ?_
                refine Exec.cnd (by simp only [go_sem, gt_iff_lt, ge_iff_le, hk1] <;> rfl) (fun hb171 => ?_) (fun hb171 => ?_)
                · skip
                  have hno : acctB a = false := no_nte hk1 (by
                    have h := hb171
                    unfold noteOK
                    revert h
                    generalize inD (a.ns.getD k default).day (a.start + 1) 131072 = x1
                    generalize inD (a.ns.getD k default).came (a.ns.getD k default).day 131072 = x2
                    generalize inD (a.ns.getD k default).fig 0 1073741824 = x3
                    clear hb171
                    cases x1 <;> cases x2 <;> cases x3 <;> decide)
                  refine Exec.reg ?_
                  refine Run.o1 (by simp only [go_sem, gt_iff_lt, ge_iff_le, hk1, hno] <;> rfl) ?_
                  refine Run.nil ?_
                  refine BlkK.ret ?_
                  refine ForK.ret ?_
                  refine BlkK.ret ?_
                  exact Ends.fin [] (rs := [.tmp 2]) rfl (by simp only [go_sem, gt_iff_lt, ge_iff_le, hk1, hno] <;> rfl) (by simp only [go_sem, gt_iff_lt, ge_iff_le, hk1, hno] <;> first | rfl | exact eqz)
                · skip
                  have hok : noteOK a.start (a.ns.getD k default) = true := by
                    have h := hb171
                    unfold noteOK
                    revert h
                    generalize inD (a.ns.getD k default).day (a.start + 1) 131072 = x1
                    generalize inD (a.ns.getD k default).came (a.ns.getD k default).day 131072 = x2
                    generalize inD (a.ns.getD k default).fig 0 1073741824 = x3
                    clear hb171
                    cases x1 <;> cases x2 <;> cases x3 <;> decide
                  refine BlkK.nrm ?_
                  refine Exec.reg1 ?_
                  refine Run.o1 (by simp only [go_sem, gt_iff_lt, ge_iff_le, hk1] <;> rfl) ?_
                  refine Run.o1 (by simp only [go_sem, gt_iff_lt, ge_iff_le, hk1]; (try simp (disch := omega) only [IntWalk.i64_in, IntWalk.u64_in, if_neg, if_pos])<;> rfl) ?_
                  refine Run.o1 (by simp only [go_sem, gt_iff_lt, ge_iff_le, hk1] <;> rfl) ?_
                  refine Run.nil ?_
                  refine ForK.nxt ?_ ?_ ?_
                  · omega
                  · exact Ghost.kp [1, 6] [1] (by simp only [go_sem, gt_iff_lt, ge_iff_le, hk1] <;> first | exact eqz | rfl)
                  · rw [pairsT_succ hk1, hX, Bool.true_and]; exact hok
              · skip
                have hke : k = a.ns.length := by have := ge_of_dec hb143; omega
                subst hke
                have hN := hX
                refine Exec.exitS ?_
                refine ForK.ext ?_
                refine BlkK.hit ?_
                refine Exec.assocS ?_
                refine Exec.reg ?_
                refine Run.o1 (by simp only [go_sem, gt_iff_lt, ge_iff_le] <;> rfl) ?_
                refine Run.nil ?_
                refine Exec.blk ?_
                refine Exec.forA [1, 8] [1] (a.ds.length) (fun k => [.slot 8 (.int k)]) (fun k => pairsT (dspOK a.start) a.ds k = true) (fun k => by simp only [go_sem] <;> rfl) (by simp only [go_sem, gt_iff_lt, ge_iff_le] <;> rfl) ?_ (fun k hk hX => ?_)
                · rfl
                · skip
                  refine Exec.assocS ?_
                  refine Exec.reg ?_
                  iterate 5 (refine Run.o1 (by simp only [go_sem, gt_iff_lt, ge_iff_le] <;> rfl) ?_)
                  refine Run.nil ?_
                  refine Exec.cndS (by simp only [go_sem, gt_iff_lt, ge_iff_le] <;> rfl) (fun hb176 => ?_) (fun hb176 => ?_)
                  · skip
                    have hlt := lt_of_dec hb176
                    have hk1 := dp_get hlt
                    refine Exec.skipS ?_
                    refine Exec.blk ?_
                    refine Exec.reg ?_
                    iterate 3 (refine Run.o1 (by simp only [go_sem, gt_iff_lt, ge_iff_le, hk1] <;> rfl) ?_)
                    refine Run.o1 (by simp only [go_sem, gt_iff_lt, ge_iff_le, hk1]; (try simp (disch := omega) only [if_pos]); (try simp only [go_sem, gt_iff_lt, ge_iff_le, hk1])<;> rfl) ?_
                    iterate 3 (refine Run.o1 (by simp only [go_sem, gt_iff_lt, ge_iff_le, hk1] <;> rfl) ?_)
                    refine Run.nil ?_
                    by_cases h0 : inD (a.ds.getD k default).fr a.start 131072 = true
                    · skip
                      have hfb := inD_iff.1 h0
                      by_cases h1 : inD (a.ds.getD k default).to ((a.ds.getD k default).fr + 1) 131072 = true
                      · skip
                        by_cases h2 : inD (a.ds.getD k default).day (a.ds.getD k default).to 131072 = true
                        · skip
                          by_cases h3 : inD (a.ds.getD k default).err (-500) 500 = true
                          · skip
                            by_cases h4 : inD (a.ds.getD k default).alw 0 500 = true
                            · skip
                              by_cases h5 : inD (a.ds.getD k default).fee 0 1000000 = true
                              · skip
                                by_cases h6 : k = 0
                                · skip
                                  subst h6
                                  have g1 : decide (((0 : Nat) : Int) > 0) = false := rfl
                                  have hP : dspP a.start (a.ds.getD 0 default) = true := by unfold dspP; rw [h0, h1, h2]; rfl
                                  have hQ : dspQ (a.ds.getD 0 default) = true := by unfold dspQ; rw [h3, h4, h5]; rfl
                                  have hok : dspOK a.start (prv a.ds 0) (a.ds.getD 0 default) = true := by unfold dspOK; rw [hP, hQ]; rfl
                                  refine Exec.opk 59 ?_
                                  iterate 4 (refine OpenK.o1 (by simp only [go_sem, gt_iff_lt, ge_iff_le, hk1, h0, h1, h2, h3, h4, h5, g1] <;> rfl) ?_)
                                  refine OpenK.cal (c_meterworksref13_in _ _ _) (by simp only [go_sem]) (by simp only [go_sem, gt_iff_lt, ge_iff_le, hk1, h0, h1, h2, h3, h4, h5, g1] <;> rfl) (by exact ⟨by first | exact WkR.pure rfl | exact WkR.nil _ | exact WkR.int (by first | omega | (simp; done) | (simp; omega)), by first | exact WkR.pure rfl | exact WkR.nil _ | exact WkR.int (by first | omega | (simp; done) | (simp; omega)), by first | exact WkR.pure rfl | exact WkR.nil _ | exact WkR.int (by first | omega | (simp; done) | (simp; omega)), trivial⟩) (fr0) (by simp only [go_sem, gt_iff_lt, ge_iff_le, hk1, h0, h1, h2, h3, h4, h5, g1] <;> rfl) (by simp only [go_sem] <;> rfl) (by simp only [go_sem] <;> rfl) ?_
                                  iterate 2 (refine OpenK.o1 (by simp only [go_sem, gt_iff_lt, ge_iff_le, hk1, h0, h1, h2, h3, h4, h5, g1] <;> rfl) ?_)
                                  iterate 4 (refine OpenK.y1 (by simp only [go_sem, gt_iff_lt, ge_iff_le, hk1, h0, h1, h2, h3, h4, h5, g1] <;> rfl) ?_)
                                  refine OpenK.y1 (by simp only [go_sem, gt_iff_lt, ge_iff_le, hk1, h0, h1, h2, h3, h4, h5, g1]; (try simp (disch := omega) only [IntWalk.i64_in, IntWalk.u64_in, if_neg, if_pos])<;> rfl) ?_
                                  refine OpenK.calw (by simp only [go_sem] <;> rfl) (c_meterworksref13_in _ _ _) (by simp only [go_sem]) (by simp only [go_sem, gt_iff_lt, ge_iff_le, hk1, h0, h1, h2, h3, h4, h5, g1] <;> rfl) (by simp only [go_sem, gt_iff_lt, ge_iff_le, hk1, h0, h1, h2, h3, h4, h5, g1] <;> rfl) (by exact ⟨by first | exact WkR.pure rfl | exact WkR.nil _ | exact WkR.int (by first | omega | (simp; done) | (simp; omega)), by first | exact WkR.pure rfl | exact WkR.nil _ | exact WkR.int (by first | omega | (simp; done) | (simp; omega)), by first | exact WkR.pure rfl | exact WkR.nil _ | exact WkR.int (by first | omega | (simp; done) | (simp; omega)), trivial⟩) (fr0) (by simp only [go_sem, gt_iff_lt, ge_iff_le, hk1, h0, h1, h2, h3, h4, h5, g1] <;> rfl) (by simp only [go_sem] <;> rfl) (by simp only [go_sem] <;> rfl) ?_
                                  refine OpenK.y1 (by simp only [go_sem, gt_iff_lt, ge_iff_le, hk1, h0, h1, h2, h3, h4, h5, g1] <;> rfl) ?_
                                  iterate 2 (refine OpenK.o1 (by simp only [go_sem, gt_iff_lt, ge_iff_le, hk1, h0, h1, h2, h3, h4, h5, g1] <;> rfl) ?_)
                                  iterate 4 (refine OpenK.y1 (by simp only [go_sem, gt_iff_lt, ge_iff_le, hk1, h0, h1, h2, h3, h4, h5, g1] <;> rfl) ?_)
                                  refine OpenK.calw (by simp only [go_sem] <;> rfl) (c_meterworksref13_in _ _ _) (by simp only [go_sem]) (by simp only [go_sem, gt_iff_lt, ge_iff_le, hk1, h0, h1, h2, h3, h4, h5, g1] <;> rfl) (by simp only [go_sem, gt_iff_lt, ge_iff_le, hk1, h0, h1, h2, h3, h4, h5, g1] <;> rfl) (by exact ⟨by first | exact WkR.pure rfl | exact WkR.nil _ | exact WkR.int (by first | omega | (simp; done) | (simp; omega)), by first | exact WkR.pure rfl | exact WkR.nil _ | exact WkR.int (by first | omega | (simp; done) | (simp; omega)), by first | exact WkR.pure rfl | exact WkR.nil _ | exact WkR.int (by first | omega | (simp; done) | (simp; omega)), trivial⟩) (fr0) (by simp only [go_sem, gt_iff_lt, ge_iff_le, hk1, h0, h1, h2, h3, h4, h5, g1] <;> rfl) (by simp only [go_sem] <;> rfl) (by simp only [go_sem] <;> rfl) ?_
                                  refine OpenK.y1 (by simp only [go_sem, gt_iff_lt, ge_iff_le, hk1, h0, h1, h2, h3, h4, h5, g1] <;> rfl) ?_
                                  iterate 2 (refine OpenK.o1 (by simp only [go_sem, gt_iff_lt, ge_iff_le, hk1, h0, h1, h2, h3, h4, h5, g1] <;> rfl) ?_)
                                  iterate 2 (refine OpenK.y1 (by simp only [go_sem, gt_iff_lt, ge_iff_le, hk1, h0, h1, h2, h3, h4, h5, g1] <;> rfl) ?_)
                                  refine OpenK.calw (by simp only [go_sem] <;> rfl) (c_meterworksref13_in _ _ _) (by simp only [go_sem]) (by simp only [go_sem, gt_iff_lt, ge_iff_le, hk1, h0, h1, h2, h3, h4, h5, g1] <;> rfl) (by simp only [go_sem, gt_iff_lt, ge_iff_le, hk1, h0, h1, h2, h3, h4, h5, g1] <;> rfl) (by exact ⟨by first | exact WkR.pure rfl | exact WkR.nil _ | exact WkR.int (by first | omega | (simp; done) | (simp; omega)), by first | exact WkR.pure rfl | exact WkR.nil _ | exact WkR.int (by first | omega | (simp; done) | (simp; omega)), by first | exact WkR.pure rfl | exact WkR.nil _ | exact WkR.int (by first | omega | (simp; done) | (simp; omega)), trivial⟩) (fr0) (by simp only [go_sem, gt_iff_lt, ge_iff_le, hk1, h0, h1, h2, h3, h4, h5, g1] <;> rfl) (by simp only [go_sem] <;> rfl) (by simp only [go_sem] <;> rfl) ?_
                                  refine OpenK.y1 (by simp only [go_sem, gt_iff_lt, ge_iff_le, hk1, h0, h1, h2, h3, h4, h5, g1] <;> rfl) ?_
                                  iterate 2 (refine OpenK.o1 (by simp only [go_sem, gt_iff_lt, ge_iff_le, hk1, h0, h1, h2, h3, h4, h5, g1] <;> rfl) ?_)
                                  iterate 2 (refine OpenK.y1 (by simp only [go_sem, gt_iff_lt, ge_iff_le, hk1, h0, h1, h2, h3, h4, h5, g1] <;> rfl) ?_)
                                  refine OpenK.calw (by simp only [go_sem] <;> rfl) (c_meterworksref13_in _ _ _) (by simp only [go_sem]) (by simp only [go_sem, gt_iff_lt, ge_iff_le, hk1, h0, h1, h2, h3, h4, h5, g1] <;> rfl) (by simp only [go_sem, gt_iff_lt, ge_iff_le, hk1, h0, h1, h2, h3, h4, h5, g1] <;> rfl) (by exact ⟨by first | exact WkR.pure rfl | exact WkR.nil _ | exact WkR.int (by first | omega | (simp; done) | (simp; omega)), by first | exact WkR.pure rfl | exact WkR.nil _ | exact WkR.int (by first | omega | (simp; done) | (simp; omega)), by first | exact WkR.pure rfl | exact WkR.nil _ | exact WkR.int (by first | omega | (simp; done) | (simp; omega)), trivial⟩) (fr0) (by simp only [go_sem, gt_iff_lt, ge_iff_le, hk1, h0, h1, h2, h3, h4, h5, g1] <;> rfl) (by simp only [go_sem] <;> rfl) (by simp only [go_sem] <;> rfl) ?_
                                  refine OpenK.y1 (by simp only [go_sem, gt_iff_lt, ge_iff_le, hk1, h0, h1, h2, h3, h4, h5, g1] <;> rfl) ?_
                                  iterate 2 (refine OpenK.o1 (by simp only [go_sem, gt_iff_lt, ge_iff_le, hk1, h0, h1, h2, h3, h4, h5, g1] <;> rfl) ?_)
                                  iterate 2 (refine OpenK.y1 (by simp only [go_sem, gt_iff_lt, ge_iff_le, hk1, h0, h1, h2, h3, h4, h5, g1] <;> rfl) ?_)
                                  refine OpenK.calw (by simp only [go_sem] <;> rfl) (c_meterworksref13_in _ _ _) (by simp only [go_sem]) (by simp only [go_sem, gt_iff_lt, ge_iff_le, hk1, h0, h1, h2, h3, h4, h5, g1] <;> rfl) (by simp only [go_sem, gt_iff_lt, ge_iff_le, hk1, h0, h1, h2, h3, h4, h5, g1] <;> rfl) (by exact ⟨by first | exact WkR.pure rfl | exact WkR.nil _ | exact WkR.int (by first | omega | (simp; done) | (simp; omega)), by first | exact WkR.pure rfl | exact WkR.nil _ | exact WkR.int (by first | omega | (simp; done) | (simp; omega)), by first | exact WkR.pure rfl | exact WkR.nil _ | exact WkR.int (by first | omega | (simp; done) | (simp; omega)), trivial⟩) (fr0) (by simp only [go_sem, gt_iff_lt, ge_iff_le, hk1, h0, h1, h2, h3, h4, h5, g1] <;> rfl) (by simp only [go_sem] <;> rfl) (by simp only [go_sem] <;> rfl) ?_
                                  refine OpenK.y1 (by simp only [go_sem, gt_iff_lt, ge_iff_le, hk1, h0, h1, h2, h3, h4, h5, g1] <;> rfl) ?_
                                  iterate 2 (refine OpenK.o1 (by simp only [go_sem, gt_iff_lt, ge_iff_le, hk1, h0, h1, h2, h3, h4, h5, g1] <;> rfl) ?_)
                                  iterate 3 (refine OpenK.y1 (by simp only [go_sem, gt_iff_lt, ge_iff_le, hk1, h0, h1, h2, h3, h4, h5, g1] <;> rfl) ?_)
                                  iterate 10 (refine OpenK.s ?_)
                                  refine OpenK.y1 (by simp only [go_sem, gt_iff_lt, ge_iff_le, hk1, h0, h1, h2, h3, h4, h5, g1] <;> rfl) ?_
                                  refine OpenK.o1 (by simp only [go_sem, gt_iff_lt, ge_iff_le, hk1, h0, h1, h2, h3, h4, h5, g1] <;> rfl) ?_
                                  refine OpenK.nil (OpenE.finT (by kernel_rfl) (by kernel_rfl) (by kernel_rfl) ?_)
                                  refine Exec.cnd (by simp only [go_sem, gt_iff_lt, ge_iff_le, hk1, h0, h1, h2, h3, h4, h5, g1] <;> rfl) (fun hb240 => ?_) (fun hb240 => ?_)
                                  · exact absurd hb240 (by simp)
                                  · skip
                                    refine BlkK.nrm ?_
                                    refine Exec.reg1 ?_
                                    refine Run.o1 (by simp only [go_sem, gt_iff_lt, ge_iff_le, hk1, h0, h1, h2, h3, h4, h5, g1] <;> rfl) ?_
                                    refine Run.o1 (by simp only [go_sem, gt_iff_lt, ge_iff_le, hk1, h0, h1, h2, h3, h4, h5, g1]; (try simp (disch := omega) only [IntWalk.i64_in, IntWalk.u64_in, if_neg, if_pos])<;> rfl) ?_
                                    refine Run.o1 (by simp only [go_sem, gt_iff_lt, ge_iff_le, hk1, h0, h1, h2, h3, h4, h5, g1] <;> rfl) ?_
                                    refine Run.nil ?_
                                    refine ForK.nxt ?_ ?_ ?_
                                    · omega
                                    · exact Ghost.kp [1, 8] [1] (by simp only [go_sem, gt_iff_lt, ge_iff_le, hk1, h0, h1, h2, h3, h4, h5, g1] <;> first | exact eqz | rfl)
                                    · rw [pairsT_succ hk1, hX, Bool.true_and]; exact hok
                                · skip
                                  have hP : dspP a.start (a.ds.getD k default) = true := by unfold dspP; rw [h0, h1, h2]; rfl
                                  have hQ : dspQ (a.ds.getD k default) = true := by unfold dspQ; rw [h3, h4, h5]; rfl
                                  have g1 : decide ((k : Int) > 0) = true := decide_eq_true (by omega)
                                  have hpv := prv_pos (l := a.ds) (by omega : 0 < k)
                                  have hpk := dp_get (l := a.ds) (i := k - 1) (by omega)
                                  have t1 : ((k : Int) - 1).toNat = k - 1 := by omega
                                  refine Exec.opk 59 ?_
                                  iterate 4 (refine OpenK.o1 (by simp only [go_sem, gt_iff_lt, ge_iff_le, hk1, h0, h1, h2, h3, h4, h5, g1, hpk, t1] <;> rfl) ?_)
                                  refine OpenK.cal (c_meterworksref13_in _ _ _) (by simp only [go_sem]) (by simp only [go_sem, gt_iff_lt, ge_iff_le, hk1, h0, h1, h2, h3, h4, h5, g1, hpk, t1] <;> rfl) (by exact ⟨by first | exact WkR.pure rfl | exact WkR.nil _ | exact WkR.int (by first | omega | (simp; done) | (simp; omega)), by first | exact WkR.pure rfl | exact WkR.nil _ | exact WkR.int (by first | omega | (simp; done) | (simp; omega)), by first | exact WkR.pure rfl | exact WkR.nil _ | exact WkR.int (by first | omega | (simp; done) | (simp; omega)), trivial⟩) (fr0) (by simp only [go_sem, gt_iff_lt, ge_iff_le, hk1, h0, h1, h2, h3, h4, h5, g1, hpk, t1] <;> rfl) (by simp only [go_sem] <;> rfl) (by simp only [go_sem] <;> rfl) ?_
                                  iterate 2 (refine OpenK.o1 (by simp only [go_sem, gt_iff_lt, ge_iff_le, hk1, h0, h1, h2, h3, h4, h5, g1, hpk, t1] <;> rfl) ?_)
                                  iterate 4 (refine OpenK.y1 (by simp only [go_sem, gt_iff_lt, ge_iff_le, hk1, h0, h1, h2, h3, h4, h5, g1, hpk, t1] <;> rfl) ?_)
                                  refine OpenK.y1 (by simp only [go_sem, gt_iff_lt, ge_iff_le, hk1, h0, h1, h2, h3, h4, h5, g1, hpk, t1]; (try simp (disch := omega) only [IntWalk.i64_in, IntWalk.u64_in, if_neg, if_pos])<;> rfl) ?_
                                  refine OpenK.calw (by simp only [go_sem] <;> rfl) (c_meterworksref13_in _ _ _) (by simp only [go_sem]) (by simp only [go_sem, gt_iff_lt, ge_iff_le, hk1, h0, h1, h2, h3, h4, h5, g1, hpk, t1] <;> rfl) (by simp only [go_sem, gt_iff_lt, ge_iff_le, hk1, h0, h1, h2, h3, h4, h5, g1, hpk, t1] <;> rfl) (by exact ⟨by first | exact WkR.pure rfl | exact WkR.nil _ | exact WkR.int (by first | omega | (simp; done) | (simp; omega)), by first | exact WkR.pure rfl | exact WkR.nil _ | exact WkR.int (by first | omega | (simp; done) | (simp; omega)), by first | exact WkR.pure rfl | exact WkR.nil _ | exact WkR.int (by first | omega | (simp; done) | (simp; omega)), trivial⟩) (fr0) (by simp only [go_sem, gt_iff_lt, ge_iff_le, hk1, h0, h1, h2, h3, h4, h5, g1, hpk, t1] <;> rfl) (by simp only [go_sem] <;> rfl) (by simp only [go_sem] <;> rfl) ?_
                                  refine OpenK.y1 (by simp only [go_sem, gt_iff_lt, ge_iff_le, hk1, h0, h1, h2, h3, h4, h5, g1, hpk, t1] <;> rfl) ?_
                                  iterate 2 (refine OpenK.o1 (by simp only [go_sem, gt_iff_lt, ge_iff_le, hk1, h0, h1, h2, h3, h4, h5, g1, hpk, t1] <;> rfl) ?_)
                                  iterate 4 (refine OpenK.y1 (by simp only [go_sem, gt_iff_lt, ge_iff_le, hk1, h0, h1, h2, h3, h4, h5, g1, hpk, t1] <;> rfl) ?_)
                                  refine OpenK.calw (by simp only [go_sem] <;> rfl) (c_meterworksref13_in _ _ _) (by simp only [go_sem]) (by simp only [go_sem, gt_iff_lt, ge_iff_le, hk1, h0, h1, h2, h3, h4, h5, g1, hpk, t1] <;> rfl) (by simp only [go_sem, gt_iff_lt, ge_iff_le, hk1, h0, h1, h2, h3, h4, h5, g1, hpk, t1] <;> rfl) (by exact ⟨by first | exact WkR.pure rfl | exact WkR.nil _ | exact WkR.int (by first | omega | (simp; done) | (simp; omega)), by first | exact WkR.pure rfl | exact WkR.nil _ | exact WkR.int (by first | omega | (simp; done) | (simp; omega)), by first | exact WkR.pure rfl | exact WkR.nil _ | exact WkR.int (by first | omega | (simp; done) | (simp; omega)), trivial⟩) (fr0) (by simp only [go_sem, gt_iff_lt, ge_iff_le, hk1, h0, h1, h2, h3, h4, h5, g1, hpk, t1] <;> rfl) (by simp only [go_sem] <;> rfl) (by simp only [go_sem] <;> rfl) ?_
                                  refine OpenK.y1 (by simp only [go_sem, gt_iff_lt, ge_iff_le, hk1, h0, h1, h2, h3, h4, h5, g1, hpk, t1] <;> rfl) ?_
                                  iterate 2 (refine OpenK.o1 (by simp only [go_sem, gt_iff_lt, ge_iff_le, hk1, h0, h1, h2, h3, h4, h5, g1, hpk, t1] <;> rfl) ?_)
                                  iterate 2 (refine OpenK.y1 (by simp only [go_sem, gt_iff_lt, ge_iff_le, hk1, h0, h1, h2, h3, h4, h5, g1, hpk, t1] <;> rfl) ?_)
                                  refine OpenK.calw (by simp only [go_sem] <;> rfl) (c_meterworksref13_in _ _ _) (by simp only [go_sem]) (by simp only [go_sem, gt_iff_lt, ge_iff_le, hk1, h0, h1, h2, h3, h4, h5, g1, hpk, t1] <;> rfl) (by simp only [go_sem, gt_iff_lt, ge_iff_le, hk1, h0, h1, h2, h3, h4, h5, g1, hpk, t1] <;> rfl) (by exact ⟨by first | exact WkR.pure rfl | exact WkR.nil _ | exact WkR.int (by first | omega | (simp; done) | (simp; omega)), by first | exact WkR.pure rfl | exact WkR.nil _ | exact WkR.int (by first | omega | (simp; done) | (simp; omega)), by first | exact WkR.pure rfl | exact WkR.nil _ | exact WkR.int (by first | omega | (simp; done) | (simp; omega)), trivial⟩) (fr0) (by simp only [go_sem, gt_iff_lt, ge_iff_le, hk1, h0, h1, h2, h3, h4, h5, g1, hpk, t1] <;> rfl) (by simp only [go_sem] <;> rfl) (by simp only [go_sem] <;> rfl) ?_
                                  refine OpenK.y1 (by simp only [go_sem, gt_iff_lt, ge_iff_le, hk1, h0, h1, h2, h3, h4, h5, g1, hpk, t1] <;> rfl) ?_
                                  iterate 2 (refine OpenK.o1 (by simp only [go_sem, gt_iff_lt, ge_iff_le, hk1, h0, h1, h2, h3, h4, h5, g1, hpk, t1] <;> rfl) ?_)
                                  iterate 2 (refine OpenK.y1 (by simp only [go_sem, gt_iff_lt, ge_iff_le, hk1, h0, h1, h2, h3, h4, h5, g1, hpk, t1] <;> rfl) ?_)
                                  refine OpenK.calw (by simp only [go_sem] <;> rfl) (c_meterworksref13_in _ _ _) (by simp only [go_sem]) (by simp only [go_sem, gt_iff_lt, ge_iff_le, hk1, h0, h1, h2, h3, h4, h5, g1, hpk, t1] <;> rfl) (by simp only [go_sem, gt_iff_lt, ge_iff_le, hk1, h0, h1, h2, h3, h4, h5, g1, hpk, t1] <;> rfl) (by exact ⟨by first | exact WkR.pure rfl | exact WkR.nil _ | exact WkR.int (by first | omega | (simp; done) | (simp; omega)), by first | exact WkR.pure rfl | exact WkR.nil _ | exact WkR.int (by first | omega | (simp; done) | (simp; omega)), by first | exact WkR.pure rfl | exact WkR.nil _ | exact WkR.int (by first | omega | (simp; done) | (simp; omega)), trivial⟩) (fr0) (by simp only [go_sem, gt_iff_lt, ge_iff_le, hk1, h0, h1, h2, h3, h4, h5, g1, hpk, t1] <;> rfl) (by simp only [go_sem] <;> rfl) (by simp only [go_sem] <;> rfl) ?_
                                  refine OpenK.y1 (by simp only [go_sem, gt_iff_lt, ge_iff_le, hk1, h0, h1, h2, h3, h4, h5, g1, hpk, t1] <;> rfl) ?_
                                  iterate 2 (refine OpenK.o1 (by simp only [go_sem, gt_iff_lt, ge_iff_le, hk1, h0, h1, h2, h3, h4, h5, g1, hpk, t1] <;> rfl) ?_)
                                  iterate 2 (refine OpenK.y1 (by simp only [go_sem, gt_iff_lt, ge_iff_le, hk1, h0, h1, h2, h3, h4, h5, g1, hpk, t1] <;> rfl) ?_)
                                  refine OpenK.calw (by simp only [go_sem] <;> rfl) (c_meterworksref13_in _ _ _) (by simp only [go_sem]) (by simp only [go_sem, gt_iff_lt, ge_iff_le, hk1, h0, h1, h2, h3, h4, h5, g1, hpk, t1] <;> rfl) (by simp only [go_sem, gt_iff_lt, ge_iff_le, hk1, h0, h1, h2, h3, h4, h5, g1, hpk, t1] <;> rfl) (by exact ⟨by first | exact WkR.pure rfl | exact WkR.nil _ | exact WkR.int (by first | omega | (simp; done) | (simp; omega)), by first | exact WkR.pure rfl | exact WkR.nil _ | exact WkR.int (by first | omega | (simp; done) | (simp; omega)), by first | exact WkR.pure rfl | exact WkR.nil _ | exact WkR.int (by first | omega | (simp; done) | (simp; omega)), trivial⟩) (fr0) (by simp only [go_sem, gt_iff_lt, ge_iff_le, hk1, h0, h1, h2, h3, h4, h5, g1, hpk, t1] <;> rfl) (by simp only [go_sem] <;> rfl) (by simp only [go_sem] <;> rfl) ?_
                                  refine OpenK.y1 (by simp only [go_sem, gt_iff_lt, ge_iff_le, hk1, h0, h1, h2, h3, h4, h5, g1, hpk, t1] <;> rfl) ?_
                                  iterate 2 (refine OpenK.o1 (by simp only [go_sem, gt_iff_lt, ge_iff_le, hk1, h0, h1, h2, h3, h4, h5, g1, hpk, t1] <;> rfl) ?_)
                                  iterate 8 (refine OpenK.y1 (by simp only [go_sem, gt_iff_lt, ge_iff_le, hk1, h0, h1, h2, h3, h4, h5, g1, hpk, t1] <;> rfl) ?_)
                                  refine OpenK.y1 (by simp only [go_sem, gt_iff_lt, ge_iff_le, hk1, h0, h1, h2, h3, h4, h5, g1, hpk, t1]; (try simp (disch := omega) only [IntWalk.i64_in, IntWalk.u64_in, if_neg, if_pos])<;> rfl) ?_
                                  refine OpenK.y1 (by simp only [go_sem, gt_iff_lt, ge_iff_le, hk1, h0, h1, h2, h3, h4, h5, g1, hpk, t1]; (try simp (disch := omega) only [if_pos]); (try simp only [go_sem, gt_iff_lt, ge_iff_le, hk1, h0, h1, h2, h3, h4, h5, g1, hpk, t1])<;> rfl) ?_
                                  iterate 4 (refine OpenK.y1 (by simp only [go_sem, gt_iff_lt, ge_iff_le, hk1, h0, h1, h2, h3, h4, h5, g1, hpk, t1] <;> rfl) ?_)
                                  refine OpenK.o1 (by simp only [go_sem, gt_iff_lt, ge_iff_le, hk1, h0, h1, h2, h3, h4, h5, g1, hpk, t1] <;> rfl) ?_
                                  refine OpenK.nil (OpenE.finT (by kernel_rfl) (by kernel_rfl) (by kernel_rfl) ?_)
                                  refine Exec.cnd (by simp only [go_sem, gt_iff_lt, ge_iff_le, hk1, h0, h1, h2, h3, h4, h5, g1, hpk, t1] <;> rfl) (fun hb240 => ?_) (fun hb240 => ?_)
                                  · skip
                                    have hno : acctB a = false := no_dsp hk1 (by
                                      unfold dspOK
                                      rw [hP, hQ, hpv, hpk]
                                      exact decide_eq_false (by have := of_decide_eq_true hb240; omega))
                                    refine Exec.reg ?_
                                    refine Run.o1 (by simp only [go_sem, gt_iff_lt, ge_iff_le, hk1, h0, h1, h2, h3, h4, h5, g1, hpk, t1, hno] <;> rfl) ?_
                                    refine Run.nil ?_
                                    refine BlkK.ret ?_
                                    refine ForK.ret ?_
                                    refine BlkK.ret ?_
                                    exact Ends.fin [] (rs := [.tmp 2]) rfl (by simp only [go_sem, gt_iff_lt, ge_iff_le, hk1, h0, h1, h2, h3, h4, h5, g1, hpk, t1, hno] <;> rfl) (by simp only [go_sem, gt_iff_lt, ge_iff_le, hk1, h0, h1, h2, h3, h4, h5, g1, hpk, t1, hno] <;> first | rfl | exact eqz)
                                  · skip
                                    have hok : dspOK a.start (prv a.ds k) (a.ds.getD k default) = true := by
                                      unfold dspOK
                                      rw [hP, hQ, hpv, hpk]
                                      exact decide_eq_true (by have := of_decide_eq_false hb240; omega)
                                    refine BlkK.nrm ?_
                                    refine Exec.reg1 ?_
                                    refine Run.o1 (by simp only [go_sem, gt_iff_lt, ge_iff_le, hk1, h0, h1, h2, h3, h4, h5, g1, hpk, t1] <;> rfl) ?_
                                    refine Run.o1 (by simp only [go_sem, gt_iff_lt, ge_iff_le, hk1, h0, h1, h2, h3, h4, h5, g1, hpk, t1]; (try simp (disch := omega) only [IntWalk.i64_in, IntWalk.u64_in, if_neg, if_pos])<;> rfl) ?_
                                    refine Run.o1 (by simp only [go_sem, gt_iff_lt, ge_iff_le, hk1, h0, h1, h2, h3, h4, h5, g1, hpk, t1] <;> rfl) ?_
                                    refine Run.nil ?_
                                    refine ForK.nxt ?_ ?_ ?_
                                    · omega
                                    · exact Ghost.kp [1, 8] [1] (by simp only [go_sem, gt_iff_lt, ge_iff_le, hk1, h0, h1, h2, h3, h4, h5, g1, hpk, t1] <;> first | exact eqz | rfl)
                                    · rw [pairsT_succ hk1, hX, Bool.true_and]; exact hok
                              · skip
                                have h5 : inD (a.ds.getD k default).fee 0 1000000 = false := by simpa using h5
                                have hno : acctB a = false := no_dsp hk1 (by unfold dspOK dspP dspQ; rw [h5]; simp)
                                refine Exec.opk 59 ?_
                                iterate 4 (refine OpenK.o1 (by simp only [go_sem, gt_iff_lt, ge_iff_le, hk1, h0, h1, h2, h3, h4, h5, hno] <;> rfl) ?_)
                                refine OpenK.cal (c_meterworksref13_in _ _ _) (by simp only [go_sem]) (by simp only [go_sem, gt_iff_lt, ge_iff_le, hk1, h0, h1, h2, h3, h4, h5, hno] <;> rfl) (by exact ⟨by first | exact WkR.pure rfl | exact WkR.nil _ | exact WkR.int (by first | omega | (simp; done) | (simp; omega)), by first | exact WkR.pure rfl | exact WkR.nil _ | exact WkR.int (by first | omega | (simp; done) | (simp; omega)), by first | exact WkR.pure rfl | exact WkR.nil _ | exact WkR.int (by first | omega | (simp; done) | (simp; omega)), trivial⟩) (fr0) (by simp only [go_sem, gt_iff_lt, ge_iff_le, hk1, h0, h1, h2, h3, h4, h5, hno] <;> rfl) (by simp only [go_sem] <;> rfl) (by simp only [go_sem] <;> rfl) ?_
                                iterate 2 (refine OpenK.o1 (by simp only [go_sem, gt_iff_lt, ge_iff_le, hk1, h0, h1, h2, h3, h4, h5, hno] <;> rfl) ?_)
                                iterate 4 (refine OpenK.y1 (by simp only [go_sem, gt_iff_lt, ge_iff_le, hk1, h0, h1, h2, h3, h4, h5, hno] <;> rfl) ?_)
                                refine OpenK.y1 (by simp only [go_sem, gt_iff_lt, ge_iff_le, hk1, h0, h1, h2, h3, h4, h5, hno]; (try simp (disch := omega) only [IntWalk.i64_in, IntWalk.u64_in, if_neg, if_pos])<;> rfl) ?_
                                refine OpenK.calw (by simp only [go_sem] <;> rfl) (c_meterworksref13_in _ _ _) (by simp only [go_sem]) (by simp only [go_sem, gt_iff_lt, ge_iff_le, hk1, h0, h1, h2, h3, h4, h5, hno] <;> rfl) (by simp only [go_sem, gt_iff_lt, ge_iff_le, hk1, h0, h1, h2, h3, h4, h5, hno] <;> rfl) (by exact ⟨by first | exact WkR.pure rfl | exact WkR.nil _ | exact WkR.int (by first | omega | (simp; done) | (simp; omega)), by first | exact WkR.pure rfl | exact WkR.nil _ | exact WkR.int (by first | omega | (simp; done) | (simp; omega)), by first | exact WkR.pure rfl | exact WkR.nil _ | exact WkR.int (by first | omega | (simp; done) | (simp; omega)), trivial⟩) (fr0) (by simp only [go_sem, gt_iff_lt, ge_iff_le, hk1, h0, h1, h2, h3, h4, h5, hno] <;> rfl) (by simp only [go_sem] <;> rfl) (by simp only [go_sem] <;> rfl) ?_
                                refine OpenK.y1 (by simp only [go_sem, gt_iff_lt, ge_iff_le, hk1, h0, h1, h2, h3, h4, h5, hno] <;> rfl) ?_
                                iterate 2 (refine OpenK.o1 (by simp only [go_sem, gt_iff_lt, ge_iff_le, hk1, h0, h1, h2, h3, h4, h5, hno] <;> rfl) ?_)
                                iterate 4 (refine OpenK.y1 (by simp only [go_sem, gt_iff_lt, ge_iff_le, hk1, h0, h1, h2, h3, h4, h5, hno] <;> rfl) ?_)
                                refine OpenK.calw (by simp only [go_sem] <;> rfl) (c_meterworksref13_in _ _ _) (by simp only [go_sem]) (by simp only [go_sem, gt_iff_lt, ge_iff_le, hk1, h0, h1, h2, h3, h4, h5, hno] <;> rfl) (by simp only [go_sem, gt_iff_lt, ge_iff_le, hk1, h0, h1, h2, h3, h4, h5, hno] <;> rfl) (by exact ⟨by first | exact WkR.pure rfl | exact WkR.nil _ | exact WkR.int (by first | omega | (simp; done) | (simp; omega)), by first | exact WkR.pure rfl | exact WkR.nil _ | exact WkR.int (by first | omega | (simp; done) | (simp; omega)), by first | exact WkR.pure rfl | exact WkR.nil _ | exact WkR.int (by first | omega | (simp; done) | (simp; omega)), trivial⟩) (fr0) (by simp only [go_sem, gt_iff_lt, ge_iff_le, hk1, h0, h1, h2, h3, h4, h5, hno] <;> rfl) (by simp only [go_sem] <;> rfl) (by simp only [go_sem] <;> rfl) ?_
                                refine OpenK.y1 (by simp only [go_sem, gt_iff_lt, ge_iff_le, hk1, h0, h1, h2, h3, h4, h5, hno] <;> rfl) ?_
                                iterate 2 (refine OpenK.o1 (by simp only [go_sem, gt_iff_lt, ge_iff_le, hk1, h0, h1, h2, h3, h4, h5, hno] <;> rfl) ?_)
                                iterate 2 (refine OpenK.y1 (by simp only [go_sem, gt_iff_lt, ge_iff_le, hk1, h0, h1, h2, h3, h4, h5, hno] <;> rfl) ?_)
                                refine OpenK.calw (by simp only [go_sem] <;> rfl) (c_meterworksref13_in _ _ _) (by simp only [go_sem]) (by simp only [go_sem, gt_iff_lt, ge_iff_le, hk1, h0, h1, h2, h3, h4, h5, hno] <;> rfl) (by simp only [go_sem, gt_iff_lt, ge_iff_le, hk1, h0, h1, h2, h3, h4, h5, hno] <;> rfl) (by exact ⟨by first | exact WkR.pure rfl | exact WkR.nil _ | exact WkR.int (by first | omega | (simp; done) | (simp; omega)), by first | exact WkR.pure rfl | exact WkR.nil _ | exact WkR.int (by first | omega | (simp; done) | (simp; omega)), by first | exact WkR.pure rfl | exact WkR.nil _ | exact WkR.int (by first | omega | (simp; done) | (simp; omega)), trivial⟩) (fr0) (by simp only [go_sem, gt_iff_lt, ge_iff_le, hk1, h0, h1, h2, h3, h4, h5, hno] <;> rfl) (by simp only [go_sem] <;> rfl) (by simp only [go_sem] <;> rfl) ?_
                                refine OpenK.y1 (by simp only [go_sem, gt_iff_lt, ge_iff_le, hk1, h0, h1, h2, h3, h4, h5, hno] <;> rfl) ?_
                                iterate 2 (refine OpenK.o1 (by simp only [go_sem, gt_iff_lt, ge_iff_le, hk1, h0, h1, h2, h3, h4, h5, hno] <;> rfl) ?_)
                                iterate 2 (refine OpenK.y1 (by simp only [go_sem, gt_iff_lt, ge_iff_le, hk1, h0, h1, h2, h3, h4, h5, hno] <;> rfl) ?_)
                                refine OpenK.calw (by simp only [go_sem] <;> rfl) (c_meterworksref13_in _ _ _) (by simp only [go_sem]) (by simp only [go_sem, gt_iff_lt, ge_iff_le, hk1, h0, h1, h2, h3, h4, h5, hno] <;> rfl) (by simp only [go_sem, gt_iff_lt, ge_iff_le, hk1, h0, h1, h2, h3, h4, h5, hno] <;> rfl) (by exact ⟨by first | exact WkR.pure rfl | exact WkR.nil _ | exact WkR.int (by first | omega | (simp; done) | (simp; omega)), by first | exact WkR.pure rfl | exact WkR.nil _ | exact WkR.int (by first | omega | (simp; done) | (simp; omega)), by first | exact WkR.pure rfl | exact WkR.nil _ | exact WkR.int (by first | omega | (simp; done) | (simp; omega)), trivial⟩) (fr0) (by simp only [go_sem, gt_iff_lt, ge_iff_le, hk1, h0, h1, h2, h3, h4, h5, hno] <;> rfl) (by simp only [go_sem] <;> rfl) (by simp only [go_sem] <;> rfl) ?_
                                refine OpenK.y1 (by simp only [go_sem, gt_iff_lt, ge_iff_le, hk1, h0, h1, h2, h3, h4, h5, hno] <;> rfl) ?_
                                iterate 2 (refine OpenK.o1 (by simp only [go_sem, gt_iff_lt, ge_iff_le, hk1, h0, h1, h2, h3, h4, h5, hno] <;> rfl) ?_)
                                iterate 2 (refine OpenK.y1 (by simp only [go_sem, gt_iff_lt, ge_iff_le, hk1, h0, h1, h2, h3, h4, h5, hno] <;> rfl) ?_)
                                refine OpenK.calw (by simp only [go_sem] <;> rfl) (c_meterworksref13_in _ _ _) (by simp only [go_sem]) (by simp only [go_sem, gt_iff_lt, ge_iff_le, hk1, h0, h1, h2, h3, h4, h5, hno] <;> rfl) (by simp only [go_sem, gt_iff_lt, ge_iff_le, hk1, h0, h1, h2, h3, h4, h5, hno] <;> rfl) (by exact ⟨by first | exact WkR.pure rfl | exact WkR.nil _ | exact WkR.int (by first | omega | (simp; done) | (simp; omega)), by first | exact WkR.pure rfl | exact WkR.nil _ | exact WkR.int (by first | omega | (simp; done) | (simp; omega)), by first | exact WkR.pure rfl | exact WkR.nil _ | exact WkR.int (by first | omega | (simp; done) | (simp; omega)), trivial⟩) (fr0) (by simp only [go_sem, gt_iff_lt, ge_iff_le, hk1, h0, h1, h2, h3, h4, h5, hno] <;> rfl) (by simp only [go_sem] <;> rfl) (by simp only [go_sem] <;> rfl) ?_
                                refine OpenK.y1 (by simp only [go_sem, gt_iff_lt, ge_iff_le, hk1, h0, h1, h2, h3, h4, h5, hno] <;> rfl) ?_
                                iterate 2 (refine OpenK.o1 (by simp only [go_sem, gt_iff_lt, ge_iff_le, hk1, h0, h1, h2, h3, h4, h5, hno] <;> rfl) ?_)
                                iterate 14 (refine OpenK.s ?_)
                                refine OpenK.o1 (by simp only [go_sem, gt_iff_lt, ge_iff_le, hk1, h0, h1, h2, h3, h4, h5, hno] <;> rfl) ?_
                                refine OpenK.nil (OpenE.finT (by kernel_rfl) (by kernel_rfl) (by kernel_rfl) ?_)
                                refine Exec.cnd (by simp only [go_sem, gt_iff_lt, ge_iff_le, hk1, h0, h1, h2, h3, h4, h5, hno] <;> rfl) (fun hb240 => ?_) (fun hb240 => ?_)
                                · skip
                                  refine Exec.reg ?_
                                  refine Run.o1 (by simp only [go_sem, gt_iff_lt, ge_iff_le, hk1, h0, h1, h2, h3, h4, h5, hno] <;> rfl) ?_
                                  refine Run.nil ?_
                                  refine BlkK.ret ?_
                                  refine ForK.ret ?_
                                  refine BlkK.ret ?_
                                  exact Ends.fin [] (rs := [.tmp 2]) rfl (by simp only [go_sem, gt_iff_lt, ge_iff_le, hk1, h0, h1, h2, h3, h4, h5, hno] <;> rfl) (by simp only [go_sem, gt_iff_lt, ge_iff_le, hk1, h0, h1, h2, h3, h4, h5, hno] <;> first | rfl | exact eqz)
                                · exact absurd hb240 (by simp)
                            · skip
                              have h4 : inD (a.ds.getD k default).alw 0 500 = false := by simpa using h4
                              have hno : acctB a = false := no_dsp hk1 (by unfold dspOK dspP dspQ; rw [h4]; simp)
                              refine Exec.opk 59 ?_
                              iterate 4 (refine OpenK.o1 (by simp only [go_sem, gt_iff_lt, ge_iff_le, hk1, h0, h1, h2, h3, h4, hno] <;> rfl) ?_)
                              refine OpenK.cal (c_meterworksref13_in _ _ _) (by simp only [go_sem]) (by simp only [go_sem, gt_iff_lt, ge_iff_le, hk1, h0, h1, h2, h3, h4, hno] <;> rfl) (by exact ⟨by first | exact WkR.pure rfl | exact WkR.nil _ | exact WkR.int (by first | omega | (simp; done) | (simp; omega)), by first | exact WkR.pure rfl | exact WkR.nil _ | exact WkR.int (by first | omega | (simp; done) | (simp; omega)), by first | exact WkR.pure rfl | exact WkR.nil _ | exact WkR.int (by first | omega | (simp; done) | (simp; omega)), trivial⟩) (fr0) (by simp only [go_sem, gt_iff_lt, ge_iff_le, hk1, h0, h1, h2, h3, h4, hno] <;> rfl) (by simp only [go_sem] <;> rfl) (by simp only [go_sem] <;> rfl) ?_
                              iterate 2 (refine OpenK.o1 (by simp only [go_sem, gt_iff_lt, ge_iff_le, hk1, h0, h1, h2, h3, h4, hno] <;> rfl) ?_)
                              iterate 4 (refine OpenK.y1 (by simp only [go_sem, gt_iff_lt, ge_iff_le, hk1, h0, h1, h2, h3, h4, hno] <;> rfl) ?_)
                              refine OpenK.y1 (by simp only [go_sem, gt_iff_lt, ge_iff_le, hk1, h0, h1, h2, h3, h4, hno]; (try simp (disch := omega) only [IntWalk.i64_in, IntWalk.u64_in, if_neg, if_pos])<;> rfl) ?_
                              refine OpenK.calw (by simp only [go_sem] <;> rfl) (c_meterworksref13_in _ _ _) (by simp only [go_sem]) (by simp only [go_sem, gt_iff_lt, ge_iff_le, hk1, h0, h1, h2, h3, h4, hno] <;> rfl) (by simp only [go_sem, gt_iff_lt, ge_iff_le, hk1, h0, h1, h2, h3, h4, hno] <;> rfl) (by exact ⟨by first | exact WkR.pure rfl | exact WkR.nil _ | exact WkR.int (by first | omega | (simp; done) | (simp; omega)), by first | exact WkR.pure rfl | exact WkR.nil _ | exact WkR.int (by first | omega | (simp; done) | (simp; omega)), by first | exact WkR.pure rfl | exact WkR.nil _ | exact WkR.int (by first | omega | (simp; done) | (simp; omega)), trivial⟩) (fr0) (by simp only [go_sem, gt_iff_lt, ge_iff_le, hk1, h0, h1, h2, h3, h4, hno] <;> rfl) (by simp only [go_sem] <;> rfl) (by simp only [go_sem] <;> rfl) ?_
                              refine OpenK.y1 (by simp only [go_sem, gt_iff_lt, ge_iff_le, hk1, h0, h1, h2, h3, h4, hno] <;> rfl) ?_
                              iterate 2 (refine OpenK.o1 (by simp only [go_sem, gt_iff_lt, ge_iff_le, hk1, h0, h1, h2, h3, h4, hno] <;> rfl) ?_)
                              iterate 4 (refine OpenK.y1 (by simp only [go_sem, gt_iff_lt, ge_iff_le, hk1, h0, h1, h2, h3, h4, hno] <;> rfl) ?_)
                              refine OpenK.calw (by simp only [go_sem] <;> rfl) (c_meterworksref13_in _ _ _) (by simp only [go_sem]) (by simp only [go_sem, gt_iff_lt, ge_iff_le, hk1, h0, h1, h2, h3, h4, hno] <;> rfl) (by simp only [go_sem, gt_iff_lt, ge_iff_le, hk1, h0, h1, h2, h3, h4, hno] <;> rfl) (by exact ⟨by first | exact WkR.pure rfl | exact WkR.nil _ | exact WkR.int (by first | omega | (simp; done) | (simp; omega)), by first | exact WkR.pure rfl | exact WkR.nil _ | exact WkR.int (by first | omega | (simp; done) | (simp; omega)), by first | exact WkR.pure rfl | exact WkR.nil _ | exact WkR.int (by first | omega | (simp; done) | (simp; omega)), trivial⟩) (fr0) (by simp only [go_sem, gt_iff_lt, ge_iff_le, hk1, h0, h1, h2, h3, h4, hno] <;> rfl) (by simp only [go_sem] <;> rfl) (by simp only [go_sem] <;> rfl) ?_
                              refine OpenK.y1 (by simp only [go_sem, gt_iff_lt, ge_iff_le, hk1, h0, h1, h2, h3, h4, hno] <;> rfl) ?_
                              iterate 2 (refine OpenK.o1 (by simp only [go_sem, gt_iff_lt, ge_iff_le, hk1, h0, h1, h2, h3, h4, hno] <;> rfl) ?_)
                              iterate 2 (refine OpenK.y1 (by simp only [go_sem, gt_iff_lt, ge_iff_le, hk1, h0, h1, h2, h3, h4, hno] <;> rfl) ?_)
                              refine OpenK.calw (by simp only [go_sem] <;> rfl) (c_meterworksref13_in _ _ _) (by simp only [go_sem]) (by simp only [go_sem, gt_iff_lt, ge_iff_le, hk1, h0, h1, h2, h3, h4, hno] <;> rfl) (by simp only [go_sem, gt_iff_lt, ge_iff_le, hk1, h0, h1, h2, h3, h4, hno] <;> rfl) (by exact ⟨by first | exact WkR.pure rfl | exact WkR.nil _ | exact WkR.int (by first | omega | (simp; done) | (simp; omega)), by first | exact WkR.pure rfl | exact WkR.nil _ | exact WkR.int (by first | omega | (simp; done) | (simp; omega)), by first | exact WkR.pure rfl | exact WkR.nil _ | exact WkR.int (by first | omega | (simp; done) | (simp; omega)), trivial⟩) (fr0) (by simp only [go_sem, gt_iff_lt, ge_iff_le, hk1, h0, h1, h2, h3, h4, hno] <;> rfl) (by simp only [go_sem] <;> rfl) (by simp only [go_sem] <;> rfl) ?_
                              refine OpenK.y1 (by simp only [go_sem, gt_iff_lt, ge_iff_le, hk1, h0, h1, h2, h3, h4, hno] <;> rfl) ?_
                              iterate 2 (refine OpenK.o1 (by simp only [go_sem, gt_iff_lt, ge_iff_le, hk1, h0, h1, h2, h3, h4, hno] <;> rfl) ?_)
                              iterate 2 (refine OpenK.y1 (by simp only [go_sem, gt_iff_lt, ge_iff_le, hk1, h0, h1, h2, h3, h4, hno] <;> rfl) ?_)
                              refine OpenK.calw (by simp only [go_sem] <;> rfl) (c_meterworksref13_in _ _ _) (by simp only [go_sem]) (by simp only [go_sem, gt_iff_lt, ge_iff_le, hk1, h0, h1, h2, h3, h4, hno] <;> rfl) (by simp only [go_sem, gt_iff_lt, ge_iff_le, hk1, h0, h1, h2, h3, h4, hno] <;> rfl) (by exact ⟨by first | exact WkR.pure rfl | exact WkR.nil _ | exact WkR.int (by first | omega | (simp; done) | (simp; omega)), by first | exact WkR.pure rfl | exact WkR.nil _ | exact WkR.int (by first | omega | (simp; done) | (simp; omega)), by first | exact WkR.pure rfl | exact WkR.nil _ | exact WkR.int (by first | omega | (simp; done) | (simp; omega)), trivial⟩) (fr0) (by simp only [go_sem, gt_iff_lt, ge_iff_le, hk1, h0, h1, h2, h3, h4, hno] <;> rfl) (by simp only [go_sem] <;> rfl) (by simp only [go_sem] <;> rfl) ?_
                              refine OpenK.y1 (by simp only [go_sem, gt_iff_lt, ge_iff_le, hk1, h0, h1, h2, h3, h4, hno] <;> rfl) ?_
                              iterate 2 (refine OpenK.o1 (by simp only [go_sem, gt_iff_lt, ge_iff_le, hk1, h0, h1, h2, h3, h4, hno] <;> rfl) ?_)
                              iterate 4 (refine OpenK.s ?_)
                              iterate 2 (refine OpenK.o1 (by simp only [go_sem, gt_iff_lt, ge_iff_le, hk1, h0, h1, h2, h3, h4, hno] <;> rfl) ?_)
                              iterate 14 (refine OpenK.s ?_)
                              refine OpenK.o1 (by simp only [go_sem, gt_iff_lt, ge_iff_le, hk1, h0, h1, h2, h3, h4, hno] <;> rfl) ?_
                              refine OpenK.nil (OpenE.finT (by kernel_rfl) (by kernel_rfl) (by kernel_rfl) ?_)
                              refine Exec.cnd (by simp only [go_sem, gt_iff_lt, ge_iff_le, hk1, h0, h1, h2, h3, h4, hno] <;> rfl) (fun hb240 => ?_) (fun hb240 => ?_)
                              · skip
                                refine Exec.reg ?_
                                refine Run.o1 (by simp only [go_sem, gt_iff_lt, ge_iff_le, hk1, h0, h1, h2, h3, h4, hno] <;> rfl) ?_
                                refine Run.nil ?_
                                refine BlkK.ret ?_
                                refine ForK.ret ?_
                                refine BlkK.ret ?_
                                exact Ends.fin [] (rs := [.tmp 2]) rfl (by simp only [go_sem, gt_iff_lt, ge_iff_le, hk1, h0, h1, h2, h3, h4, hno] <;> rfl) (by simp only [go_sem, gt_iff_lt, ge_iff_le, hk1, h0, h1, h2, h3, h4, hno] <;> first | rfl | exact eqz)
                              · exact absurd hb240 (by simp)
                          · skip
                            have h3 : inD (a.ds.getD k default).err (-500) 500 = false := by simpa using h3
                            have hno : acctB a = false := no_dsp hk1 (by unfold dspOK dspP dspQ; rw [h3]; simp)
                            refine Exec.opk 59 ?_
                            iterate 4 (refine OpenK.o1 (by simp only [go_sem, gt_iff_lt, ge_iff_le, hk1, h0, h1, h2, h3, hno] <;> rfl) ?_)
                            refine OpenK.cal (c_meterworksref13_in _ _ _) (by simp only [go_sem]) (by simp only [go_sem, gt_iff_lt, ge_iff_le, hk1, h0, h1, h2, h3, hno] <;> rfl) (by exact ⟨by first | exact WkR.pure rfl | exact WkR.nil _ | exact WkR.int (by first | omega | (simp; done) | (simp; omega)), by first | exact WkR.pure rfl | exact WkR.nil _ | exact WkR.int (by first | omega | (simp; done) | (simp; omega)), by first | exact WkR.pure rfl | exact WkR.nil _ | exact WkR.int (by first | omega | (simp; done) | (simp; omega)), trivial⟩) (fr0) (by simp only [go_sem, gt_iff_lt, ge_iff_le, hk1, h0, h1, h2, h3, hno] <;> rfl) (by simp only [go_sem] <;> rfl) (by simp only [go_sem] <;> rfl) ?_
                            iterate 2 (refine OpenK.o1 (by simp only [go_sem, gt_iff_lt, ge_iff_le, hk1, h0, h1, h2, h3, hno] <;> rfl) ?_)
                            iterate 4 (refine OpenK.y1 (by simp only [go_sem, gt_iff_lt, ge_iff_le, hk1, h0, h1, h2, h3, hno] <;> rfl) ?_)
                            refine OpenK.y1 (by simp only [go_sem, gt_iff_lt, ge_iff_le, hk1, h0, h1, h2, h3, hno]; (try simp (disch := omega) only [IntWalk.i64_in, IntWalk.u64_in, if_neg, if_pos])<;> rfl) ?_
                            refine OpenK.calw (by simp only [go_sem] <;> rfl) (c_meterworksref13_in _ _ _) (by simp only [go_sem]) (by simp only [go_sem, gt_iff_lt, ge_iff_le, hk1, h0, h1, h2, h3, hno] <;> rfl) (by simp only [go_sem, gt_iff_lt, ge_iff_le, hk1, h0, h1, h2, h3, hno] <;> rfl) (by exact ⟨by first | exact WkR.pure rfl | exact WkR.nil _ | exact WkR.int (by first | omega | (simp; done) | (simp; omega)), by first | exact WkR.pure rfl | exact WkR.nil _ | exact WkR.int (by first | omega | (simp; done) | (simp; omega)), by first | exact WkR.pure rfl | exact WkR.nil _ | exact WkR.int (by first | omega | (simp; done) | (simp; omega)), trivial⟩) (fr0) (by simp only [go_sem, gt_iff_lt, ge_iff_le, hk1, h0, h1, h2, h3, hno] <;> rfl) (by simp only [go_sem] <;> rfl) (by simp only [go_sem] <;> rfl) ?_
                            refine OpenK.y1 (by simp only [go_sem, gt_iff_lt, ge_iff_le, hk1, h0, h1, h2, h3, hno] <;> rfl) ?_
                            iterate 2 (refine OpenK.o1 (by simp only [go_sem, gt_iff_lt, ge_iff_le, hk1, h0, h1, h2, h3, hno] <;> rfl) ?_)
                            iterate 4 (refine OpenK.y1 (by simp only [go_sem, gt_iff_lt, ge_iff_le, hk1, h0, h1, h2, h3, hno] <;> rfl) ?_)
                            refine OpenK.calw (by simp only [go_sem] <;> rfl) (c_meterworksref13_in _ _ _) (by simp only [go_sem]) (by simp only [go_sem, gt_iff_lt, ge_iff_le, hk1, h0, h1, h2, h3, hno] <;> rfl) (by simp only [go_sem, gt_iff_lt, ge_iff_le, hk1, h0, h1, h2, h3, hno] <;> rfl) (by exact ⟨by first | exact WkR.pure rfl | exact WkR.nil _ | exact WkR.int (by first | omega | (simp; done) | (simp; omega)), by first | exact WkR.pure rfl | exact WkR.nil _ | exact WkR.int (by first | omega | (simp; done) | (simp; omega)), by first | exact WkR.pure rfl | exact WkR.nil _ | exact WkR.int (by first | omega | (simp; done) | (simp; omega)), trivial⟩) (fr0) (by simp only [go_sem, gt_iff_lt, ge_iff_le, hk1, h0, h1, h2, h3, hno] <;> rfl) (by simp only [go_sem] <;> rfl) (by simp only [go_sem] <;> rfl) ?_
                            refine OpenK.y1 (by simp only [go_sem, gt_iff_lt, ge_iff_le, hk1, h0, h1, h2, h3, hno] <;> rfl) ?_
                            iterate 2 (refine OpenK.o1 (by simp only [go_sem, gt_iff_lt, ge_iff_le, hk1, h0, h1, h2, h3, hno] <;> rfl) ?_)
                            iterate 2 (refine OpenK.y1 (by simp only [go_sem, gt_iff_lt, ge_iff_le, hk1, h0, h1, h2, h3, hno] <;> rfl) ?_)
                            refine OpenK.calw (by simp only [go_sem] <;> rfl) (c_meterworksref13_in _ _ _) (by simp only [go_sem]) (by simp only [go_sem, gt_iff_lt, ge_iff_le, hk1, h0, h1, h2, h3, hno] <;> rfl) (by simp only [go_sem, gt_iff_lt, ge_iff_le, hk1, h0, h1, h2, h3, hno] <;> rfl) (by exact ⟨by first | exact WkR.pure rfl | exact WkR.nil _ | exact WkR.int (by first | omega | (simp; done) | (simp; omega)), by first | exact WkR.pure rfl | exact WkR.nil _ | exact WkR.int (by first | omega | (simp; done) | (simp; omega)), by first | exact WkR.pure rfl | exact WkR.nil _ | exact WkR.int (by first | omega | (simp; done) | (simp; omega)), trivial⟩) (fr0) (by simp only [go_sem, gt_iff_lt, ge_iff_le, hk1, h0, h1, h2, h3, hno] <;> rfl) (by simp only [go_sem] <;> rfl) (by simp only [go_sem] <;> rfl) ?_
                            refine OpenK.y1 (by simp only [go_sem, gt_iff_lt, ge_iff_le, hk1, h0, h1, h2, h3, hno] <;> rfl) ?_
                            iterate 2 (refine OpenK.o1 (by simp only [go_sem, gt_iff_lt, ge_iff_le, hk1, h0, h1, h2, h3, hno] <;> rfl) ?_)
                            iterate 4 (refine OpenK.s ?_)
                            iterate 2 (refine OpenK.o1 (by simp only [go_sem, gt_iff_lt, ge_iff_le, hk1, h0, h1, h2, h3, hno] <;> rfl) ?_)
                            iterate 4 (refine OpenK.s ?_)
                            iterate 2 (refine OpenK.o1 (by simp only [go_sem, gt_iff_lt, ge_iff_le, hk1, h0, h1, h2, h3, hno] <;> rfl) ?_)
                            iterate 14 (refine OpenK.s ?_)
                            refine OpenK.o1 (by simp only [go_sem, gt_iff_lt, ge_iff_le, hk1, h0, h1, h2, h3, hno] <;> rfl) ?_
                            refine OpenK.nil (OpenE.finT (by kernel_rfl) (by kernel_rfl) (by kernel_rfl) ?_)
                            refine Exec.cnd (by simp only [go_sem, gt_iff_lt, ge_iff_le, hk1, h0, h1, h2, h3, hno] <;> rfl) (fun hb240 => ?_) (fun hb240 => ?_)
                            · skip
                              refine Exec.reg ?_
                              refine Run.o1 (by simp only [go_sem, gt_iff_lt, ge_iff_le, hk1, h0, h1, h2, h3, hno] <;> rfl) ?_
                              refine Run.nil ?_
                              refine BlkK.ret ?_
                              refine ForK.ret ?_
                              refine BlkK.ret ?_
                              exact Ends.fin [] (rs := [.tmp 2]) rfl (by simp only [go_sem, gt_iff_lt, ge_iff_le, hk1, h0, h1, h2, h3, hno] <;> rfl) (by simp only [go_sem, gt_iff_lt, ge_iff_le, hk1, h0, h1, h2, h3, hno] <;> first | rfl | exact eqz)
                            · exact absurd hb240 (by simp)
                        · skip
                          have h2 : inD (a.ds.getD k default).day (a.ds.getD k default).to 131072 = false := by simpa using h2
                          have hno : acctB a = false := no_dsp hk1 (by unfold dspOK dspP dspQ; rw [h2]; simp)
                          refine Exec.opk 59 ?_
                          iterate 4 (refine OpenK.o1 (by simp only [go_sem, gt_iff_lt, ge_iff_le, hk1, h0, h1, h2, hno] <;> rfl) ?_)
                          refine OpenK.cal (c_meterworksref13_in _ _ _) (by simp only [go_sem]) (by simp only [go_sem, gt_iff_lt, ge_iff_le, hk1, h0, h1, h2, hno] <;> rfl) (by exact ⟨by first | exact WkR.pure rfl | exact WkR.nil _ | exact WkR.int (by first | omega | (simp; done) | (simp; omega)), by first | exact WkR.pure rfl | exact WkR.nil _ | exact WkR.int (by first | omega | (simp; done) | (simp; omega)), by first | exact WkR.pure rfl | exact WkR.nil _ | exact WkR.int (by first | omega | (simp; done) | (simp; omega)), trivial⟩) (fr0) (by simp only [go_sem, gt_iff_lt, ge_iff_le, hk1, h0, h1, h2, hno] <;> rfl) (by simp only [go_sem] <;> rfl) (by simp only [go_sem] <;> rfl) ?_
                          iterate 2 (refine OpenK.o1 (by simp only [go_sem, gt_iff_lt, ge_iff_le, hk1, h0, h1, h2, hno] <;> rfl) ?_)
                          iterate 4 (refine OpenK.y1 (by simp only [go_sem, gt_iff_lt, ge_iff_le, hk1, h0, h1, h2, hno] <;> rfl) ?_)
                          refine OpenK.y1 (by simp only [go_sem, gt_iff_lt, ge_iff_le, hk1, h0, h1, h2, hno]; (try simp (disch := omega) only [IntWalk.i64_in, IntWalk.u64_in, if_neg, if_pos])<;> rfl) ?_
                          refine OpenK.calw (by simp only [go_sem] <;> rfl) (c_meterworksref13_in _ _ _) (by simp only [go_sem]) (by simp only [go_sem, gt_iff_lt, ge_iff_le, hk1, h0, h1, h2, hno] <;> rfl) (by simp only [go_sem, gt_iff_lt, ge_iff_le, hk1, h0, h1, h2, hno] <;> rfl) (by exact ⟨by first | exact WkR.pure rfl | exact WkR.nil _ | exact WkR.int (by first | omega | (simp; done) | (simp; omega)), by first | exact WkR.pure rfl | exact WkR.nil _ | exact WkR.int (by first | omega | (simp; done) | (simp; omega)), by first | exact WkR.pure rfl | exact WkR.nil _ | exact WkR.int (by first | omega | (simp; done) | (simp; omega)), trivial⟩) (fr0) (by simp only [go_sem, gt_iff_lt, ge_iff_le, hk1, h0, h1, h2, hno] <;> rfl) (by simp only [go_sem] <;> rfl) (by simp only [go_sem] <;> rfl) ?_
                          refine OpenK.y1 (by simp only [go_sem, gt_iff_lt, ge_iff_le, hk1, h0, h1, h2, hno] <;> rfl) ?_
                          iterate 2 (refine OpenK.o1 (by simp only [go_sem, gt_iff_lt, ge_iff_le, hk1, h0, h1, h2, hno] <;> rfl) ?_)
                          iterate 4 (refine OpenK.y1 (by simp only [go_sem, gt_iff_lt, ge_iff_le, hk1, h0, h1, h2, hno] <;> rfl) ?_)
                          refine OpenK.calw (by simp only [go_sem] <;> rfl) (c_meterworksref13_in _ _ _) (by simp only [go_sem]) (by simp only [go_sem, gt_iff_lt, ge_iff_le, hk1, h0, h1, h2, hno] <;> rfl) (by simp only [go_sem, gt_iff_lt, ge_iff_le, hk1, h0, h1, h2, hno] <;> rfl) (by exact ⟨by first | exact WkR.pure rfl | exact WkR.nil _ | exact WkR.int (by first | omega | (simp; done) | (simp; omega)), by first | exact WkR.pure rfl | exact WkR.nil _ | exact WkR.int (by first | omega | (simp; done) | (simp; omega)), by first | exact WkR.pure rfl | exact WkR.nil _ | exact WkR.int (by first | omega | (simp; done) | (simp; omega)), trivial⟩) (fr0) (by simp only [go_sem, gt_iff_lt, ge_iff_le, hk1, h0, h1, h2, hno] <;> rfl) (by simp only [go_sem] <;> rfl) (by simp only [go_sem] <;> rfl) ?_
                          refine OpenK.y1 (by simp only [go_sem, gt_iff_lt, ge_iff_le, hk1, h0, h1, h2, hno] <;> rfl) ?_
                          iterate 2 (refine OpenK.o1 (by simp only [go_sem, gt_iff_lt, ge_iff_le, hk1, h0, h1, h2, hno] <;> rfl) ?_)
                          iterate 4 (refine OpenK.s ?_)
                          iterate 2 (refine OpenK.o1 (by simp only [go_sem, gt_iff_lt, ge_iff_le, hk1, h0, h1, h2, hno] <;> rfl) ?_)
                          iterate 4 (refine OpenK.s ?_)
                          iterate 2 (refine OpenK.o1 (by simp only [go_sem, gt_iff_lt, ge_iff_le, hk1, h0, h1, h2, hno] <;> rfl) ?_)
                          iterate 4 (refine OpenK.s ?_)
                          iterate 2 (refine OpenK.o1 (by simp only [go_sem, gt_iff_lt, ge_iff_le, hk1, h0, h1, h2, hno] <;> rfl) ?_)
                          iterate 14 (refine OpenK.s ?_)
                          refine OpenK.o1 (by simp only [go_sem, gt_iff_lt, ge_iff_le, hk1, h0, h1, h2, hno] <;> rfl) ?_
                          refine OpenK.nil (OpenE.finT (by kernel_rfl) (by kernel_rfl) (by kernel_rfl) ?_)
                          refine Exec.cnd (by simp only [go_sem, gt_iff_lt, ge_iff_le, hk1, h0, h1, h2, hno] <;> rfl) (fun hb240 => ?_) (fun hb240 => ?_)
                          · skip
                            refine Exec.reg ?_
                            refine Run.o1 (by simp only [go_sem, gt_iff_lt, ge_iff_le, hk1, h0, h1, h2, hno] <;> rfl) ?_
                            refine Run.nil ?_
                            refine BlkK.ret ?_
                            refine ForK.ret ?_
                            refine BlkK.ret ?_
                            exact Ends.fin [] (rs := [.tmp 2]) rfl (by simp only [go_sem, gt_iff_lt, ge_iff_le, hk1, h0, h1, h2, hno] <;> rfl) (by simp only [go_sem, gt_iff_lt, ge_iff_le, hk1, h0, h1, h2, hno] <;> first | rfl | exact eqz)
                          · exact absurd hb240 (by simp)
                      · skip
                        have h1 : inD (a.ds.getD k default).to ((a.ds.getD k default).fr + 1) 131072 = false := by simpa using h1
                        have hno : acctB a = false := no_dsp hk1 (by unfold dspOK dspP dspQ; rw [h1]; simp)
                        refine Exec.opk 59 ?_
                        iterate 4 (refine OpenK.o1 (by simp only [go_sem, gt_iff_lt, ge_iff_le, hk1, h0, h1, hno] <;> rfl) ?_)
                        refine OpenK.cal (c_meterworksref13_in _ _ _) (by simp only [go_sem]) (by simp only [go_sem, gt_iff_lt, ge_iff_le, hk1, h0, h1, hno] <;> rfl) (by exact ⟨by first | exact WkR.pure rfl | exact WkR.nil _ | exact WkR.int (by first | omega | (simp; done) | (simp; omega)), by first | exact WkR.pure rfl | exact WkR.nil _ | exact WkR.int (by first | omega | (simp; done) | (simp; omega)), by first | exact WkR.pure rfl | exact WkR.nil _ | exact WkR.int (by first | omega | (simp; done) | (simp; omega)), trivial⟩) (fr0) (by simp only [go_sem, gt_iff_lt, ge_iff_le, hk1, h0, h1, hno] <;> rfl) (by simp only [go_sem] <;> rfl) (by simp only [go_sem] <;> rfl) ?_
                        iterate 2 (refine OpenK.o1 (by simp only [go_sem, gt_iff_lt, ge_iff_le, hk1, h0, h1, hno] <;> rfl) ?_)
                        iterate 4 (refine OpenK.y1 (by simp only [go_sem, gt_iff_lt, ge_iff_le, hk1, h0, h1, hno] <;> rfl) ?_)
                        refine OpenK.y1 (by simp only [go_sem, gt_iff_lt, ge_iff_le, hk1, h0, h1, hno]; (try simp (disch := omega) only [IntWalk.i64_in, IntWalk.u64_in, if_neg, if_pos])<;> rfl) ?_
                        refine OpenK.calw (by simp only [go_sem] <;> rfl) (c_meterworksref13_in _ _ _) (by simp only [go_sem]) (by simp only [go_sem, gt_iff_lt, ge_iff_le, hk1, h0, h1, hno] <;> rfl) (by simp only [go_sem, gt_iff_lt, ge_iff_le, hk1, h0, h1, hno] <;> rfl) (by exact ⟨by first | exact WkR.pure rfl | exact WkR.nil _ | exact WkR.int (by first | omega | (simp; done) | (simp; omega)), by first | exact WkR.pure rfl | exact WkR.nil _ | exact WkR.int (by first | omega | (simp; done) | (simp; omega)), by first | exact WkR.pure rfl | exact WkR.nil _ | exact WkR.int (by first | omega | (simp; done) | (simp; omega)), trivial⟩) (fr0) (by simp only [go_sem, gt_iff_lt, ge_iff_le, hk1, h0, h1, hno] <;> rfl) (by simp only [go_sem] <;> rfl) (by simp only [go_sem] <;> rfl) ?_
                        refine OpenK.y1 (by simp only [go_sem, gt_iff_lt, ge_iff_le, hk1, h0, h1, hno] <;> rfl) ?_
                        iterate 2 (refine OpenK.o1 (by simp only [go_sem, gt_iff_lt, ge_iff_le, hk1, h0, h1, hno] <;> rfl) ?_)
                        iterate 6 (refine OpenK.s ?_)
                        iterate 2 (refine OpenK.o1 (by simp only [go_sem, gt_iff_lt, ge_iff_le, hk1, h0, h1, hno] <;> rfl) ?_)
                        iterate 4 (refine OpenK.s ?_)
                        iterate 2 (refine OpenK.o1 (by simp only [go_sem, gt_iff_lt, ge_iff_le, hk1, h0, h1, hno] <;> rfl) ?_)
                        iterate 4 (refine OpenK.s ?_)
                        iterate 2 (refine OpenK.o1 (by simp only [go_sem, gt_iff_lt, ge_iff_le, hk1, h0, h1, hno] <;> rfl) ?_)
                        iterate 4 (refine OpenK.s ?_)
                        iterate 2 (refine OpenK.o1 (by simp only [go_sem, gt_iff_lt, ge_iff_le, hk1, h0, h1, hno] <;> rfl) ?_)
                        iterate 14 (refine OpenK.s ?_)
                        refine OpenK.o1 (by simp only [go_sem, gt_iff_lt, ge_iff_le, hk1, h0, h1, hno] <;> rfl) ?_
                        refine OpenK.nil (OpenE.finT (by kernel_rfl) (by kernel_rfl) (by kernel_rfl) ?_)
                        refine Exec.cnd (by simp only [go_sem, gt_iff_lt, ge_iff_le, hk1, h0, h1, hno] <;> rfl) (fun hb240 => ?_) (fun hb240 => ?_)
                        · skip
                          refine Exec.reg ?_
                          refine Run.o1 (by simp only [go_sem, gt_iff_lt, ge_iff_le, hk1, h0, h1, hno] <;> rfl) ?_
                          refine Run.nil ?_
                          refine BlkK.ret ?_
                          refine ForK.ret ?_
                          refine BlkK.ret ?_
                          exact Ends.fin [] (rs := [.tmp 2]) rfl (by simp only [go_sem, gt_iff_lt, ge_iff_le, hk1, h0, h1, hno] <;> rfl) (by simp only [go_sem, gt_iff_lt, ge_iff_le, hk1, h0, h1, hno] <;> first | rfl | exact eqz)
                        · exact absurd hb240 (by simp)
                    · skip
                      have h0 : inD (a.ds.getD k default).fr a.start 131072 = false := by simpa using h0
                      have hno : acctB a = false := no_dsp hk1 (by unfold dspOK dspP dspQ; rw [h0]; simp)
                      refine Exec.opk 59 ?_
                      iterate 4 (refine OpenK.o1 (by simp only [go_sem, gt_iff_lt, ge_iff_le, hk1, h0, hno] <;> rfl) ?_)
                      refine OpenK.cal (c_meterworksref13_in _ _ _) (by simp only [go_sem]) (by simp only [go_sem, gt_iff_lt, ge_iff_le, hk1, h0, hno] <;> rfl) (by exact ⟨by first | exact WkR.pure rfl | exact WkR.nil _ | exact WkR.int (by first | omega | (simp; done) | (simp; omega)), by first | exact WkR.pure rfl | exact WkR.nil _ | exact WkR.int (by first | omega | (simp; done) | (simp; omega)), by first | exact WkR.pure rfl | exact WkR.nil _ | exact WkR.int (by first | omega | (simp; done) | (simp; omega)), trivial⟩) (fr0) (by simp only [go_sem, gt_iff_lt, ge_iff_le, hk1, h0, hno] <;> rfl) (by simp only [go_sem] <;> rfl) (by simp only [go_sem] <;> rfl) ?_
                      iterate 2 (refine OpenK.o1 (by simp only [go_sem, gt_iff_lt, ge_iff_le, hk1, h0, hno] <;> rfl) ?_)
                      iterate 7 (refine OpenK.s ?_)
                      iterate 2 (refine OpenK.o1 (by simp only [go_sem, gt_iff_lt, ge_iff_le, hk1, h0, hno] <;> rfl) ?_)
                      iterate 6 (refine OpenK.s ?_)
                      iterate 2 (refine OpenK.o1 (by simp only [go_sem, gt_iff_lt, ge_iff_le, hk1, h0, hno] <;> rfl) ?_)
                      iterate 4 (refine OpenK.s ?_)
                      iterate 2 (refine OpenK.o1 (by simp only [go_sem, gt_iff_lt, ge_iff_le, hk1, h0, hno] <;> rfl) ?_)
                      iterate 4 (refine OpenK.s ?_)
                      iterate 2 (refine OpenK.o1 (by simp only [go_sem, gt_iff_lt, ge_iff_le, hk1, h0, hno] <;> rfl) ?_)
                      iterate 4 (refine OpenK.s ?_)
                      iterate 2 (refine OpenK.o1 (by simp only [go_sem, gt_iff_lt, ge_iff_le, hk1, h0, hno] <;> rfl) ?_)
                      iterate 14 (refine OpenK.s ?_)
                      refine OpenK.o1 (by simp only [go_sem, gt_iff_lt, ge_iff_le, hk1, h0, hno] <;> rfl) ?_
                      refine OpenK.nil (OpenE.finT (by kernel_rfl) (by kernel_rfl) (by kernel_rfl) ?_)
                      refine Exec.cnd (by simp only [go_sem, gt_iff_lt, ge_iff_le, hk1, h0, hno] <;> rfl) (fun hb240 => ?_) (fun hb240 => ?_)
                      · skip
                        refine Exec.reg ?_
                        refine Run.o1 (by simp only [go_sem, gt_iff_lt, ge_iff_le, hk1, h0, hno] <;> rfl) ?_
                        refine Run.nil ?_
                        refine BlkK.ret ?_
                        refine ForK.ret ?_
                        refine BlkK.ret ?_
                        exact Ends.fin [] (rs := [.tmp 2]) rfl (by simp only [go_sem, gt_iff_lt, ge_iff_le, hk1, h0, hno] <;> rfl) (by simp only [go_sem, gt_iff_lt, ge_iff_le, hk1, h0, hno] <;> first | rfl | exact eqz)
                      · exact absurd hb240 (by simp)
                  · skip
                    have hke : k = a.ds.length := by have := ge_of_dec hb176; omega
                    subst hke
                    have hyes := acct_of hn hz hT hB hN hX
                    refine Exec.exitS ?_
                    refine ForK.ext ?_
                    refine BlkK.hit ?_
                    refine Exec.reg ?_
                    refine Run.o1 (by simp only [go_sem, gt_iff_lt, ge_iff_le, hyes] <;> rfl) ?_
                    refine Run.nil ?_
                    exact Ends.fin [] (rs := [.tmp 2]) rfl (by simp only [go_sem, gt_iff_lt, ge_iff_le, hyes] <;> rfl) (by simp only [go_sem, gt_iff_lt, ge_iff_le, hyes] <;> first | rfl | exact eqz)

end Go.Mw

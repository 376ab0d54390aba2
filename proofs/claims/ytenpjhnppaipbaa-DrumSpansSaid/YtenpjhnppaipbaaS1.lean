/- The statements about the drum: what a reading can stand for, as the document tells it. -/
import Derived.Test.YtenpjhnppaipbaaB10
import Derived.Test.YtenpjhnppaipbaaB3
import Derived.Test.YtenpjhnppaipbaaB4
set_option linter.unusedSimpArgs false
set_option linter.unusedVariables false
set_option linter.unusedSectionVars false
set_option linter.deprecated false
namespace Go.Mw
open Go.Proofs
open Go.Dr
set_option maxRecDepth 20000 in
/-- meterworks/meterworksref02.Within -/
theorem c_meterworksref02_Within (p x m : Int) (hp : 0 ≤ p ∧ p ≤ 9999) (hx : 0 ≤ x ∧ x ≤ 9) (hm : 0 ≤ m ∧ m ≤ 999) : Contract Try.prog 22 [.int p, .int x, .int m] (.bool (withinB p x m)) [] := by
  have e0 : (0 : Int) - m = -m := by omega
  have e : withinB p x m = (inD (p - 1000 * x) (-m) m || inD (p - 1000 * x - 10000) (-m) m) := rfl
  refine con_of follows_mixed Try.func22 rfl (by simp only [List.length_cons, List.length_nil, Try.ntmps22]; omega) (by kernel_rfl) rfl ?_
  refine Exec.reg ?_
  refine Run.op (by simp only [go_sem] <;> rfl) (by simp only [go_sem] <;> rfl) ?_
  refine Run.nil ?_
  by_cases h1 : inD (p - 1000 * x) (-m) m = true
  · skip
    rw [h1, Bool.true_or] at e
    refine Exec.reg ?_
    iterate 2 (refine Run.op (by simp only [go_sem, e0, e, h1] <;> rfl) (by simp only [go_sem] <;> rfl) ?_)
    refine Run.op (by simp only [go_sem, e0, e, h1]; (try simp (disch := omega) only [IntWalk.i64_in, IntWalk.u64_in, if_neg, if_pos])<;> rfl) (by simp only [go_sem] <;> rfl) ?_
    refine Run.op (by simp only [go_sem, e0, e, h1]; (try simp (disch := omega) only [IntWalk.i64_in, IntWalk.u64_in, if_neg, if_pos])<;> rfl) (by simp only [go_sem] <;> rfl) ?_
    refine Run.op (by simp only [go_sem, e0, e, h1] <;> rfl) (by simp only [go_sem] <;> rfl) ?_
    refine Run.op (by simp only [go_sem, e0, e, h1]; (try simp (disch := omega) only [IntWalk.i64_in, IntWalk.u64_in, if_neg, if_pos])<;> rfl) (by simp only [go_sem] <;> rfl) ?_
    refine Run.op (by simp only [go_sem, e0, e, h1] <;> rfl) (by simp only [go_sem] <;> rfl) ?_
    refine Run.cal (c_meterworksref02_in (p - 1000 * x) (-m) m) (by simp only [go_sem]) (by simp only [go_sem, e0, e, h1] <;> rfl) (by exact ⟨by first | exact WkR.pure rfl | exact WkR.nil _ | exact WkR.int (by first | omega | (simp; done) | (simp; omega)), by first | exact WkR.pure rfl | exact WkR.nil _ | exact WkR.int (by first | omega | (simp; done) | (simp; omega)), by first | exact WkR.pure rfl | exact WkR.nil _ | exact WkR.int (by first | omega | (simp; done) | (simp; omega)), trivial⟩) (fr0) (by simp only [go_sem, e0, e, h1] <;> rfl) ?_
    refine Run.op (by simp only [go_sem, e0, e, h1] <;> rfl) (by simp only [go_sem] <;> rfl) ?_
    refine Run.skp (by simp only [go_sem] <;> rfl) (by simp only [go_sem] <;> rfl) ?_
    refine Run.skp (by simp only [go_sem] <;> rfl) (by simp only [go_sem] <;> rfl) ?_
    refine Run.skp (by simp only [go_sem] <;> rfl) (by simp only [go_sem] <;> rfl) ?_
    refine Run.skp (by simp only [go_sem] <;> rfl) (by simp only [go_sem] <;> rfl) ?_
    refine Run.skp (by simp only [go_sem] <;> rfl) (by simp only [go_sem] <;> rfl) ?_
    refine Run.skp (by simp only [go_sem] <;> rfl) (by simp only [go_sem] <;> rfl) ?_
    refine Run.skp (by simp only [go_sem] <;> rfl) (by simp only [go_sem] <;> rfl) ?_
    refine Run.skp (by simp only [go_sem] <;> rfl) (by simp only [go_sem] <;> rfl) ?_
    refine Run.skp (by simp only [go_sem] <;> rfl) (by simp only [go_sem] <;> rfl) ?_
    iterate 2 (refine Run.op (by simp only [go_sem, e0, e, h1] <;> rfl) (by simp only [go_sem] <;> rfl) ?_)
    refine Run.nil ?_
    exact Ends.fin [] (rs := [.tmp 6]) rfl (by simp only [go_sem, e0, e, h1] <;> rfl) (by simp only [go_sem, e0, e, h1] <;> first | rfl | ((repeat' (first | with_reducible_and_instances rfl | refine st_eq ?_ ?_ ?_ | refine ret_eq ?_ | refine tup_eq ?_ | refine tm_eq ?_ ?_ | refine arr_eq ?_ | refine cells_eq ?_ | refine val_eq ?_ | refine ls_eq ?_ ?_ | refine own_eq ?_ ?_ | refine sl_eq ?_ | refine b_eq ?_ | (refine i_eq ?_; omega))); done))
  · skip
    have h2 : inD (p - 1000 * x) (-m) m = false := by simpa using h1
    rw [h2, Bool.false_or] at e
    refine Exec.reg ?_
    iterate 2 (refine Run.op (by simp only [go_sem, e0, e, h2] <;> rfl) (by simp only [go_sem] <;> rfl) ?_)
    refine Run.op (by simp only [go_sem, e0, e, h2]; (try simp (disch := omega) only [IntWalk.i64_in, IntWalk.u64_in, if_neg, if_pos])<;> rfl) (by simp only [go_sem] <;> rfl) ?_
    refine Run.op (by simp only [go_sem, e0, e, h2]; (try simp (disch := omega) only [IntWalk.i64_in, IntWalk.u64_in, if_neg, if_pos])<;> rfl) (by simp only [go_sem] <;> rfl) ?_
    refine Run.op (by simp only [go_sem, e0, e, h2] <;> rfl) (by simp only [go_sem] <;> rfl) ?_
    refine Run.op (by simp only [go_sem, e0, e, h2]; (try simp (disch := omega) only [IntWalk.i64_in, IntWalk.u64_in, if_neg, if_pos])<;> rfl) (by simp only [go_sem] <;> rfl) ?_
    refine Run.op (by simp only [go_sem, e0, e, h2] <;> rfl) (by simp only [go_sem] <;> rfl) ?_
    refine Run.cal (c_meterworksref02_in (p - 1000 * x) (-m) m) (by simp only [go_sem]) (by simp only [go_sem, e0, e, h2] <;> rfl) (by exact ⟨by first | exact WkR.pure rfl | exact WkR.nil _ | exact WkR.int (by first | omega | (simp; done) | (simp; omega)), by first | exact WkR.pure rfl | exact WkR.nil _ | exact WkR.int (by first | omega | (simp; done) | (simp; omega)), by first | exact WkR.pure rfl | exact WkR.nil _ | exact WkR.int (by first | omega | (simp; done) | (simp; omega)), trivial⟩) (fr0) (by simp only [go_sem, e0, e, h2] <;> rfl) ?_
    refine Run.op (by simp only [go_sem, e0, e, h2] <;> rfl) (by simp only [go_sem] <;> rfl) ?_
    refine Run.yes (by simp only [go_sem] <;> rfl) (by simp only [go_sem, e0, e, h2] <;> rfl) (by simp only [go_sem] <;> rfl) ?_
    refine Run.yes (by simp only [go_sem] <;> rfl) (by simp only [go_sem, e0, e, h2] <;> rfl) (by simp only [go_sem] <;> rfl) ?_
    refine Run.yes (by simp only [go_sem] <;> rfl) (by simp only [go_sem, e0, e, h2]; (try simp (disch := omega) only [IntWalk.i64_in, IntWalk.u64_in, if_neg, if_pos])<;> rfl) (by simp only [go_sem] <;> rfl) ?_
    refine Run.yes (by simp only [go_sem] <;> rfl) (by simp only [go_sem, e0, e, h2]; (try simp (disch := omega) only [IntWalk.i64_in, IntWalk.u64_in, if_neg, if_pos])<;> rfl) (by simp only [go_sem] <;> rfl) ?_
    refine Run.yes (by simp only [go_sem] <;> rfl) (by simp only [go_sem, e0, e, h2]; (try simp (disch := omega) only [IntWalk.i64_in, IntWalk.u64_in, if_neg, if_pos])<;> rfl) (by simp only [go_sem] <;> rfl) ?_
    refine Run.yes (by simp only [go_sem] <;> rfl) (by simp only [go_sem, e0, e, h2] <;> rfl) (by simp only [go_sem] <;> rfl) ?_
    refine Run.yes (by simp only [go_sem] <;> rfl) (by simp only [go_sem, e0, e, h2]; (try simp (disch := omega) only [IntWalk.i64_in, IntWalk.u64_in, if_neg, if_pos])<;> rfl) (by simp only [go_sem] <;> rfl) ?_
    refine Run.yes (by simp only [go_sem] <;> rfl) (by simp only [go_sem, e0, e, h2] <;> rfl) (by simp only [go_sem] <;> rfl) ?_
    refine Run.calw (by simp only [go_sem] <;> rfl) (c_meterworksref02_in (p - 1000 * x - 10000) (-m) m) (by simp only [go_sem]) (by simp only [go_sem, e0, e, h2] <;> rfl) (by simp only [go_sem, e0, e, h2] <;> rfl) (by exact ⟨by first | exact WkR.pure rfl | exact WkR.nil _ | exact WkR.int (by first | omega | (simp; done) | (simp; omega)), by first | exact WkR.pure rfl | exact WkR.nil _ | exact WkR.int (by first | omega | (simp; done) | (simp; omega)), by first | exact WkR.pure rfl | exact WkR.nil _ | exact WkR.int (by first | omega | (simp; done) | (simp; omega)), trivial⟩) (fr0) (by simp only [go_sem, e0, e, h2] <;> rfl) ?_
    iterate 2 (refine Run.op (by simp only [go_sem, e0, e, h2] <;> rfl) (by simp only [go_sem] <;> rfl) ?_)
    refine Run.nil ?_
    exact Ends.fin [] (rs := [.tmp 6]) rfl (by simp only [go_sem, e0, e, h2] <;> rfl) (by simp only [go_sem, e0, e, h2] <;> first | rfl | ((repeat' (first | with_reducible_and_instances rfl | refine st_eq ?_ ?_ ?_ | refine ret_eq ?_ | refine tup_eq ?_ | refine tm_eq ?_ ?_ | refine arr_eq ?_ | refine cells_eq ?_ | refine val_eq ?_ | refine ls_eq ?_ ?_ | refine own_eq ?_ ?_ | refine sl_eq ?_ | refine b_eq ?_ | (refine i_eq ?_; omega))); done))

set_option maxRecDepth 20000 in
set_option maxHeartbeats 2000000 in
/-- meterworks/meterworksref02.Fits -/
theorem c_meterworksref02_Fits (fs : List Int) (t m : Int) (hl : fs.length ≤ 6) (hfs : ∀ x ∈ fs, 0 ≤ x ∧ x ≤ 9) (ht : 0 ≤ t ∧ t ≤ 2000000000) (hm : 0 ≤ m ∧ m ≤ 999) : Contract Try.prog 21 [.leaf (.d (intsD fs)), .int t, .int m] (.bool (fitsB fs t m)) [] := by
  refine con_of follows_mixed Try.func21 rfl (by simp only [List.length_cons, List.length_nil, Try.ntmps21]; omega) (by kernel_rfl) rfl ?_
  refine Exec.reg ?_
  refine Run.op (by simp only [go_sem] <;> rfl) (by simp only [go_sem] <;> rfl) ?_
  refine Run.nil ?_
  refine Exec.assocS ?_
  refine Exec.reg ?_
  refine Run.op (by simp only [go_sem] <;> rfl) (by simp only [go_sem] <;> rfl) ?_
  refine Run.nil ?_
  refine Exec.blk ?_
  refine Exec.forA [0, 1, 2, 7] [] (fs.length) (fun k => [.slot 7 (.int k)]) (fun k => ∀ j x, j < k → fs[j]? = some x → withinB (placeD t j) x m = true) (fun k => by simp only [go_sem] <;> rfl) (by simp only [go_sem] <;> rfl) ?_ (fun k hk hX => ?_)
  · exact fun j x hj => by omega
  · skip
    refine Exec.assocS ?_
    refine Exec.reg ?_
    iterate 4 (refine Run.op (by simp only [go_sem] <;> rfl) (by simp only [go_sem] <;> rfl) ?_)
    refine Run.nil ?_
    refine Exec.cndS (by simp only [go_sem] <;> rfl) (fun hb11 => ?_) (fun hb11 => ?_)
    · skip
      have hlt := lt_of_dec hb11
      obtain ⟨x, hx⟩ := elem_of hb11
      have hxb := hfs x (List.mem_of_getElem? hx)
      refine Exec.skipS ?_
      refine Exec.blk ?_
      refine Exec.opk 12 ?_
      refine OpenK.op (by simp only [go_sem, hx] <;> rfl) (by simp only [go_sem] <;> rfl) (by simp only [go_sem] <;> rfl) ?_
      refine OpenK.op (by simp only [go_sem, hx] <;> rfl) (by simp only [go_sem] <;> rfl) (by simp only [go_sem] <;> rfl) ?_
      refine OpenK.cal (c_meterworksref02_Place k (by omega) t ht) (by simp only [go_sem]) (by simp only [go_sem, hx] <;> rfl) (by exact ⟨by first | exact WkR.pure rfl | exact WkR.nil _ | exact WkR.int (by first | omega | (simp; done) | (simp; omega)), by first | exact WkR.pure rfl | exact WkR.nil _ | exact WkR.int (by first | omega | (simp; done) | (simp; omega)), trivial⟩) (fr0) (by simp only [go_sem, hx] <;> rfl) (by simp only [go_sem] <;> rfl) (by simp only [go_sem] <;> rfl) ?_
      refine OpenK.op (by simp only [go_sem, hx] <;> rfl) (by simp only [go_sem] <;> rfl) (by simp only [go_sem] <;> rfl) ?_
      refine OpenK.op (by simp only [go_sem, hx] <;> rfl) (by simp only [go_sem] <;> rfl) (by simp only [go_sem] <;> rfl) ?_
      refine OpenK.op (by simp only [go_sem, hx]; (try simp (disch := omega) only [if_pos]); (try simp only [go_sem, hx])<;> rfl) (by simp only [go_sem] <;> rfl) (by simp only [go_sem] <;> rfl) ?_
      refine OpenK.op (by simp only [go_sem, hx] <;> rfl) (by simp only [go_sem] <;> rfl) (by simp only [go_sem] <;> rfl) ?_
      refine OpenK.op (by simp only [go_sem, hx] <;> rfl) (by simp only [go_sem] <;> rfl) (by simp only [go_sem] <;> rfl) ?_
      refine OpenK.cal (c_meterworksref02_Within (placeD t k) x m (place_bnd t k) hxb hm) (by simp only [go_sem]) (by simp only [go_sem, hx] <;> rfl) (by exact ⟨by first | exact WkR.pure rfl | exact WkR.nil _ | exact WkR.int (by first | omega | (simp; done) | (simp; omega)), by first | exact WkR.pure rfl | exact WkR.nil _ | exact WkR.int (by first | omega | (simp; done) | (simp; omega)), by first | exact WkR.pure rfl | exact WkR.nil _ | exact WkR.int (by first | omega | (simp; done) | (simp; omega)), trivial⟩) (fr0) (by simp only [go_sem, hx] <;> rfl) (by simp only [go_sem] <;> rfl) (by simp only [go_sem] <;> rfl) ?_
      refine OpenK.op (by simp only [go_sem, hx] <;> rfl) (by simp only [go_sem] <;> rfl) (by simp only [go_sem] <;> rfl) ?_
      refine OpenK.nil (OpenE.fin (by decide +kernel) (by decide +kernel) ?_)
      refine Exec.cnd (by simp only [go_sem, hx] <;> rfl) (fun hb23 => ?_) (fun hb23 => ?_)
      · skip
        have hw : ¬ withinB (placeD t k) x m = true := by simpa using hb23
        have hr : fitsB fs t m = false := by rw [← Bool.not_eq_true, fits_iff]; exact fun h => hw (h k x hx)
        refine Exec.reg ?_
        refine Run.op (by simp only [go_sem, hx, hr] <;> rfl) (by simp only [go_sem] <;> rfl) ?_
        refine Run.nil ?_
        refine BlkK.ret ?_
        refine ForK.ret ?_
        refine BlkK.ret ?_
        exact Ends.fin [] (rs := [.tmp 6]) rfl (by simp only [go_sem, hx, hr] <;> rfl) (by simp only [go_sem, hx, hr] <;> first | rfl | ((repeat' (first | with_reducible_and_instances rfl | refine st_eq ?_ ?_ ?_ | refine ret_eq ?_ | refine tup_eq ?_ | refine tm_eq ?_ ?_ | refine arr_eq ?_ | refine cells_eq ?_ | refine val_eq ?_ | refine ls_eq ?_ ?_ | refine own_eq ?_ ?_ | refine sl_eq ?_ | refine b_eq ?_ | (refine i_eq ?_; omega))); done))
      · skip
        have hw : withinB (placeD t k) x m = true := by simpa using hb23
        refine BlkK.nrm ?_
        refine Exec.reg1 ?_
        refine Run.op (by simp only [go_sem, hx] <;> rfl) (by simp only [go_sem] <;> rfl) ?_
        refine Run.op (by simp only [go_sem, hx]; (try simp (disch := omega) only [IntWalk.i64_in, IntWalk.u64_in, if_neg, if_pos])<;> rfl) (by simp only [go_sem] <;> rfl) ?_
        refine Run.op (by simp only [go_sem, hx] <;> rfl) (by simp only [go_sem] <;> rfl) ?_
        refine Run.nil ?_
        refine ForK.nxt ?_ ?_ ?_
        · omega
        · exact Ghost.kp [0, 1, 2, 7] [] (by simp only [go_sem, hx]; first | ((repeat' (first | with_reducible_and_instances rfl | refine st_eq ?_ ?_ ?_ | refine ret_eq ?_ | refine tup_eq ?_ | refine tm_eq ?_ ?_ | refine arr_eq ?_ | refine cells_eq ?_ | refine val_eq ?_ | refine ls_eq ?_ ?_ | refine own_eq ?_ ?_ | refine sl_eq ?_ | refine b_eq ?_ | (refine i_eq ?_; omega))); done) | rfl)
        · intro j y hj hy
          by_cases e : j = k
          · subst e; rw [hx] at hy; cases hy; exact hw
          · exact hX j y (by omega) hy
    · skip
      have hge := ge_of_dec hb11
      have hr : fitsB fs t m = true := by rw [fits_iff]; exact fun j x hx => hX j x (by have := (List.getElem?_eq_some_iff.1 hx).1; omega) hx
      refine Exec.exitS ?_
      refine ForK.ext ?_
      refine BlkK.hit ?_
      refine Exec.reg ?_
      refine Run.op (by simp only [go_sem, hr] <;> rfl) (by simp only [go_sem] <;> rfl) ?_
      refine Run.nil ?_
      exact Ends.fin [] (rs := [.tmp 6]) rfl (by simp only [go_sem, hr] <;> rfl) (by simp only [go_sem, hr] <;> first | rfl | ((repeat' (first | with_reducible_and_instances rfl | refine st_eq ?_ ?_ ?_ | refine ret_eq ?_ | refine tup_eq ?_ | refine tm_eq ?_ ?_ | refine arr_eq ?_ | refine cells_eq ?_ | refine val_eq ?_ | refine ls_eq ?_ ?_ | refine own_eq ?_ ?_ | refine sl_eq ?_ | refine b_eq ?_ | (refine i_eq ?_; omega))); done))

set_option maxRecDepth 20000 in
/-- meterworks/meterworksref02.Figures -/
theorem c_meterworksref02_Figures (l : List Int) (hl : l.length ≤ 1000) : Contract Try.prog 23 [.leaf (.d (intsD l))] (.bool (figsB l)) [] := by
  refine con_of follows_mixed Try.func23 rfl (by simp only [List.length_cons, List.length_nil, Try.ntmps23]; omega) (by kernel_rfl) rfl ?_
  refine Exec.reg ?_
  refine Run.op (by simp only [go_sem] <;> rfl) (by simp only [go_sem] <;> rfl) ?_
  refine Run.nil ?_
  refine Exec.assocS ?_
  refine Exec.reg ?_
  refine Run.op (by simp only [go_sem] <;> rfl) (by simp only [go_sem] <;> rfl) ?_
  refine Run.nil ?_
  refine Exec.blk ?_
  refine Exec.forA [0, 3] [] (l.length) (fun k => [.slot 3 (.int k)]) (fun k => (l.take k).all (fun n => inD n 0 9) = true) (fun k => by simp only [go_sem] <;> rfl) (by simp only [go_sem] <;> rfl) ?_ (fun k hk hX => ?_)
  · rfl
  · skip
    refine Exec.assocS ?_
    refine Exec.reg ?_
    iterate 4 (refine Run.op (by simp only [go_sem] <;> rfl) (by simp only [go_sem] <;> rfl) ?_)
    refine Run.nil ?_
    refine Exec.cndS (by simp only [go_sem] <;> rfl) (fun hb7 => ?_) (fun hb7 => ?_)
    · skip
      have hlt := lt_of_dec hb7
      obtain ⟨s, hs⟩ := elem_of hb7
      refine Exec.skipS ?_
      refine Exec.blk ?_
      refine Exec.reg ?_
      iterate 2 (refine Run.op (by simp only [go_sem, hs] <;> rfl) (by simp only [go_sem] <;> rfl) ?_)
      refine Run.op (by simp only [go_sem, hs]; (try simp (disch := omega) only [if_pos]); (try simp only [go_sem, hs])<;> rfl) (by simp only [go_sem] <;> rfl) ?_
      refine Run.op (by simp only [go_sem, hs] <;> rfl) (by simp only [go_sem] <;> rfl) ?_
      refine Run.cal (c_meterworksref02_in _ _ _) (by simp only [go_sem]) (by simp only [go_sem, hs] <;> rfl) (by exact ⟨by first | exact WkR.pure rfl | exact WkR.nil _ | exact WkR.int (by first | omega | (simp; done) | (simp; omega)), by first | exact WkR.pure rfl | exact WkR.nil _ | exact WkR.int (by first | omega | (simp; done) | (simp; omega)), by first | exact WkR.pure rfl | exact WkR.nil _ | exact WkR.int (by first | omega | (simp; done) | (simp; omega)), trivial⟩) (fr0) (by simp only [go_sem, hs] <;> rfl) ?_
      refine Run.op (by simp only [go_sem, hs] <;> rfl) (by simp only [go_sem] <;> rfl) ?_
      refine Run.nil ?_
      refine Exec.cnd (by simp only [go_sem, hs] <;> rfl) (fun hb15 => ?_) (fun hb15 => ?_)
      · skip
        have ha : l.all (fun n => inD n 0 9) = false := all_stop hs (by simpa using hb15)
        have hr : figsB l = false := by unfold figsB; rw [ha, Bool.false_and]
        refine Exec.reg ?_
        refine Run.op (by simp only [go_sem, hs, hr] <;> rfl) (by simp only [go_sem] <;> rfl) ?_
        refine Run.nil ?_
        refine BlkK.ret ?_
        refine ForK.ret ?_
        refine BlkK.ret ?_
        exact Ends.fin [] (rs := [.tmp 2]) rfl (by simp only [go_sem, hs, hr] <;> rfl) (by simp only [go_sem, hs, hr] <;> first | rfl | ((repeat' (first | with_reducible_and_instances rfl | refine st_eq ?_ ?_ ?_ | refine ret_eq ?_ | refine tup_eq ?_ | refine tm_eq ?_ ?_ | refine arr_eq ?_ | refine cells_eq ?_ | refine val_eq ?_ | refine ls_eq ?_ ?_ | refine own_eq ?_ ?_ | refine sl_eq ?_ | refine b_eq ?_ | (refine i_eq ?_; omega))); done))
      · skip
        refine BlkK.nrm ?_
        refine Exec.reg1 ?_
        refine Run.op (by simp only [go_sem, hs] <;> rfl) (by simp only [go_sem] <;> rfl) ?_
        refine Run.op (by simp only [go_sem, hs]; (try simp (disch := omega) only [IntWalk.i64_in, IntWalk.u64_in, if_neg, if_pos])<;> rfl) (by simp only [go_sem] <;> rfl) ?_
        refine Run.op (by simp only [go_sem, hs] <;> rfl) (by simp only [go_sem] <;> rfl) ?_
        refine Run.nil ?_
        refine ForK.nxt ?_ ?_ ?_
        · omega
        · exact Ghost.kp [0, 3] [] (by simp only [go_sem, hs]; first | ((repeat' (first | with_reducible_and_instances rfl | refine st_eq ?_ ?_ ?_ | refine ret_eq ?_ | refine tup_eq ?_ | refine tm_eq ?_ ?_ | refine arr_eq ?_ | refine cells_eq ?_ | refine val_eq ?_ | refine ls_eq ?_ ?_ | refine own_eq ?_ ?_ | refine sl_eq ?_ | refine b_eq ?_ | (refine i_eq ?_; omega))); done) | rfl)
        · exact all_step hX hs (by simpa using hb15)
    · skip
      have ha := all_done hX (ge_of_dec hb7)
      have hr : figsB l = inD (l.length : Int) 1 6 := by unfold figsB; rw [ha, Bool.true_and]
      refine Exec.exitS ?_
      refine ForK.ext ?_
      refine BlkK.hit ?_
      refine Exec.reg ?_
      iterate 2 (refine Run.op (by simp only [go_sem, hr] <;> rfl) (by simp only [go_sem] <;> rfl) ?_)
      refine Run.cal (c_meterworksref02_in _ _ _) (by simp only [go_sem]) (by simp only [go_sem, hr] <;> rfl) (by exact ⟨by first | exact WkR.pure rfl | exact WkR.nil _ | exact WkR.int (by first | omega | (simp; done) | (simp; omega)), by first | exact WkR.pure rfl | exact WkR.nil _ | exact WkR.int (by first | omega | (simp; done) | (simp; omega)), by first | exact WkR.pure rfl | exact WkR.nil _ | exact WkR.int (by first | omega | (simp; done) | (simp; omega)), trivial⟩) (fr0) (by simp only [go_sem, hr] <;> rfl) ?_
      refine Run.op (by simp only [go_sem, hr] <;> rfl) (by simp only [go_sem] <;> rfl) ?_
      refine Run.nil ?_
      exact Ends.fin [] (rs := [.tmp 2]) rfl (by simp only [go_sem, hr] <;> rfl) (by simp only [go_sem, hr] <;> first | rfl | ((repeat' (first | with_reducible_and_instances rfl | refine st_eq ?_ ?_ ?_ | refine ret_eq ?_ | refine tup_eq ?_ | refine tm_eq ?_ ?_ | refine arr_eq ?_ | refine cells_eq ?_ | refine val_eq ?_ | refine ls_eq ?_ ?_ | refine own_eq ?_ ?_ | refine sl_eq ?_ | refine b_eq ?_ | (refine i_eq ?_; omega))); done))

theorem refF_len (fs : List Int) (m : Int) : ∀ k, (refF fs m k).length ≤ k
  | 0 => Nat.le_refl _
  | k + 1 => by
    have ih := refF_len fs m k
    unfold refF
    split
    · split
      · rename_i y hy
        split
        · have : 0 < (refF fs m k).length := List.length_pos_iff.2 fun h => by rw [h] at hy; cases hy
          simp; omega
        · simp; omega
      · simp
    · omega
theorem refF_no {fs : List Int} {m : Int} {k : Nat} (h : fitsB fs k m = false) : refF fs m (k + 1) = refF fs m k := by
  show (if fitsB fs k m = true then _ else refF fs m k) = _
  rw [h]; rfl
theorem refF_one {fs : List Int} {m : Int} {k : Nat} (h : fitsB fs k m = true) (h0 : refF fs m k = []) : refF fs m (k + 1) = [⟨k, k⟩] := by
  show (if fitsB fs k m = true then _ else refF fs m k) = _
  rw [if_pos h, h0]; rfl
theorem refF_ext {fs : List Int} {m : Int} {k : Nat} {o : List Go.Dr.Span} {y : Go.Dr.Span} (h : fitsB fs k m = true) (h0 : refF fs m k = o ++ [y]) : refF fs m (k + 1) = if y.hi = (k : Int) - 1 then o ++ [⟨y.lo, k⟩] else o ++ [y] ++ [⟨k, k⟩] := by
  show (if fitsB fs k m = true then _ else refF fs m k) = _
  rw [if_pos h, h0]
  simp
theorem pow_le2 {n : Nat} (h : n ≤ 2) : 1 ≤ pow10 n ∧ pow10 n ≤ 100 := by
  have h1 := pow10_pos n
  have h2 := pow10_le h
  have h3 : pow10 2 = 100 := by decide
  omega
set_option maxRecDepth 20000 in
set_option maxHeartbeats 8000000 in
/-- meterworks/meterworksref02.Fit -/
theorem c_meterworksref02_Fit (fs : List Int) (m : Int) (hl : fs.length ≤ 1000) (h2 : figsB fs = true → fs.length ≤ 2) : Contract Try.prog 18 [.leaf (.d (intsD fs)), .int m] (fitV (fitR fs m)) [] := by
  refine con_of follows_mixed Try.func18 rfl (by simp only [List.length_cons, List.length_nil, Try.ntmps18]; omega) (by kernel_rfl) rfl ?_
  refine Exec.reg ?_
  iterate 2 (refine Run.op (by simp only [go_sem] <;> rfl) (by simp only [go_sem] <;> rfl) ?_)
  refine Run.nil ?_
  refine Exec.assocS ?_
  refine Exec.reg ?_
  refine Run.op (by simp only [go_sem] <;> rfl) (by simp only [go_sem] <;> rfl) ?_
  refine Run.cal (c_meterworksref02_Figures fs hl) (by simp only [go_sem]) (by simp only [go_sem] <;> rfl) (by exact ⟨by first | exact WkR.pure rfl | exact WkR.nil _ | exact WkR.int (by first | omega | (simp; done) | (simp; omega)), trivial⟩) (fr0) (by simp only [go_sem] <;> rfl) ?_
  refine Run.op (by simp only [go_sem] <;> rfl) (by simp only [go_sem] <;> rfl) ?_
  refine Run.nil ?_
  refine Exec.cndS (by simp only [go_sem] <;> rfl) (fun hb10 => ?_) (fun hb10 => ?_)
  · skip
    have hfg : figsB fs = false := by simpa using hb10
    have hr : fitR fs m = ([], 1) := by unfold fitR; rw [if_pos hfg]
    refine Exec.assocS ?_
    refine Exec.reg ?_
    iterate 2 (refine Run.op (by simp only [go_sem, hr] <;> rfl) (by simp only [go_sem] <;> rfl) ?_)
    refine Run.nild 4 2 (by simp only [go_sem] <;> rfl) (by simp only [go_sem] <;> rfl) ?_
    refine Run.nil ?_
    refine Exec.retS ?_
    exact Ends.fin [] (rs := [.tmp 4, .tmp 5]) rfl (by simp only [go_sem, hr] <;> rfl) (by simp only [go_sem, hr] <;> first | rfl | ((repeat' (first | with_reducible_and_instances rfl | refine st_eq ?_ ?_ ?_ | refine ret_eq ?_ | refine tup_eq ?_ | refine tm_eq ?_ ?_ | refine arr_eq ?_ | refine cells_eq ?_ | refine val_eq ?_ | refine ls_eq ?_ ?_ | refine own_eq ?_ ?_ | refine sl_eq ?_ | refine b_eq ?_ | (refine i_eq ?_; omega))); done))
  · skip
    have hf : figsB fs = true := by simpa using hb10
    obtain ⟨hfs, hl1, hl6⟩ := figs_iff.1 hf
    have hl2 := h2 hf
    refine Exec.skipS ?_
    refine Exec.assocS ?_
    refine Exec.reg ?_
    refine Run.op (by simp only [go_sem] <;> rfl) (by simp only [go_sem] <;> rfl) ?_
    refine Run.cal (c_meterworksref02_in _ _ _) (by simp only [go_sem]) (by simp only [go_sem] <;> rfl) (by exact ⟨by first | exact WkR.pure rfl | exact WkR.nil _ | exact WkR.int (by first | omega | (simp; done) | (simp; omega)), by first | exact WkR.pure rfl | exact WkR.nil _ | exact WkR.int (by first | omega | (simp; done) | (simp; omega)), by first | exact WkR.pure rfl | exact WkR.nil _ | exact WkR.int (by first | omega | (simp; done) | (simp; omega)), trivial⟩) (fr0) (by simp only [go_sem] <;> rfl) ?_
    refine Run.op (by simp only [go_sem] <;> rfl) (by simp only [go_sem] <;> rfl) ?_
    refine Run.nil ?_
    refine Exec.cndS (by simp only [go_sem] <;> rfl) (fun hb13 => ?_) (fun hb13 => ?_)
    · skip
      have hmi : inD m 0 999 = false := by simpa using hb13
      have hr : fitR fs m = ([], 2) := by unfold fitR; rw [if_neg (by simp [hf]), if_pos hmi]
      refine Exec.assocS ?_
      refine Exec.reg ?_
      iterate 2 (refine Run.op (by simp only [go_sem, hr] <;> rfl) (by simp only [go_sem] <;> rfl) ?_)
      refine Run.nild 4 2 (by simp only [go_sem] <;> rfl) (by simp only [go_sem] <;> rfl) ?_
      refine Run.nil ?_
      refine Exec.retS ?_
      exact Ends.fin [] (rs := [.tmp 4, .tmp 5]) rfl (by simp only [go_sem, hr] <;> rfl) (by simp only [go_sem, hr] <;> first | rfl | ((repeat' (first | with_reducible_and_instances rfl | refine st_eq ?_ ?_ ?_ | refine ret_eq ?_ | refine tup_eq ?_ | refine tm_eq ?_ ?_ | refine arr_eq ?_ | refine cells_eq ?_ | refine val_eq ?_ | refine ls_eq ?_ ?_ | refine own_eq ?_ ?_ | refine sl_eq ?_ | refine b_eq ?_ | (refine i_eq ?_; omega))); done))
    · skip
      have hmi : inD m 0 999 = true := by simpa using hb13
      have hm := inD_iff.1 hmi
      have hpw := pow_le2 hl2
      have htn : turnD (fs.length : Int) = 1000 * pow10 fs.length := rfl
      have hr0 : refF fs m 0 = [] := rfl
      refine Exec.skipS ?_
      refine Exec.reg ?_
      refine Run.op (by simp only [go_sem] <;> rfl) (by simp only [go_sem] <;> rfl) ?_
      refine Run.nil ?_
      refine Exec.assocS ?_
      refine Exec.reg ?_
      refine Run.nilo 6 1000 45 2 (by simp only [go_sem] <;> rfl) (by simp only [go_sem] <;> rfl) (by omega) (by omega) (by simp only [go_sem] <;> rfl) ?_
      refine Run.op (by simp only [go_sem] <;> rfl) (by simp only [go_sem] <;> rfl) ?_
      refine Run.nil ?_
      refine Exec.blk ?_
      refine Exec.forA [0, 1, 6, 7] [1000] ((turnD (fs.length : Int)).toNat) (fun k => [.slot 7 (.int k), .slot 6 (.leaf (.own 1000 0 (refF fs m k).length (refF fs m k).length)), .obj 1000 (.arr 45 2 ((refF fs m k).map encSpan))]) (fun _ => True) (fun k => by simp only [go_sem] <;> rfl) (by simp only [go_sem, hr0, Int.natCast_zero] <;> rfl) ?_ (fun k hk hX => ?_)
      · trivial
      · skip
        refine Exec.assocS ?_
        refine Exec.reg ?_
        iterate 3 (refine Run.op (by simp only [go_sem] <;> rfl) (by simp only [go_sem] <;> rfl) ?_)
        refine Run.cal (c_meterworksref02_Turn (fs.length : Int) (by omega)) (by simp only [go_sem]) (by simp only [go_sem] <;> rfl) (by exact ⟨by first | exact WkR.pure rfl | exact WkR.nil _ | exact WkR.int (by first | omega | (simp; done) | (simp; omega)), trivial⟩) (fr0) (by simp only [go_sem] <;> rfl) ?_
        refine Run.op (by simp only [go_sem] <;> rfl) (by simp only [go_sem] <;> rfl) ?_
        refine Run.nil ?_
        refine Exec.cndS (by simp only [go_sem] <;> rfl) (fun hb18 => ?_) (fun hb18 => ?_)
        · skip
          have hlt : (k : Int) < turnD (fs.length : Int) := of_decide_eq_true hb18
          have hrl := refF_len fs m k
          obtain ⟨J, hJ⟩ : ∃ J, refF fs m k = J := ⟨_, rfl⟩
          rw [hJ] at hrl
          simp only [hJ]
          refine Exec.skipS ?_
          refine Exec.blk ?_
          refine Exec.assocS ?_
          refine Exec.reg ?_
          iterate 3 (refine Run.op (by simp only [go_sem] <;> rfl) (by simp only [go_sem] <;> rfl) ?_)
          refine Run.cal (c_meterworksref02_Fits fs (k : Int) m hl6 hfs (by omega) hm) (by simp only [go_sem]) (by simp only [go_sem] <;> rfl) (by exact ⟨by first | exact WkR.pure rfl | exact WkR.nil _ | exact WkR.int (by first | omega | (simp; done) | (simp; omega)), by first | exact WkR.pure rfl | exact WkR.nil _ | exact WkR.int (by first | omega | (simp; done) | (simp; omega)), by first | exact WkR.pure rfl | exact WkR.nil _ | exact WkR.int (by first | omega | (simp; done) | (simp; omega)), trivial⟩) (fr0) (by simp only [go_sem] <;> rfl) ?_
          refine Run.op (by simp only [go_sem] <;> rfl) (by simp only [go_sem] <;> rfl) ?_
          refine Run.nil ?_
          refine Exec.cndS (by simp only [go_sem] <;> rfl) (fun hb25 => ?_) (fun hb25 => ?_)
          · skip
            have hnf : fitsB fs (k : Int) m = false := by simpa using hb25
            have hsu := refF_no hnf
            rw [hJ] at hsu
            refine Exec.exitS ?_
            refine BlkK.hit ?_
            refine Exec.reg1 ?_
            refine Run.op (by simp only [go_sem, hsu] <;> rfl) (by simp only [go_sem] <;> rfl) ?_
            refine Run.op (by simp only [go_sem, hsu]; (try simp (disch := omega) only [IntWalk.i64_in, IntWalk.u64_in, if_neg, if_pos])<;> rfl) (by simp only [go_sem] <;> rfl) ?_
            refine Run.op (by simp only [go_sem, hsu] <;> rfl) (by simp only [go_sem] <;> rfl) ?_
            refine Run.nil ?_
            refine ForK.nxt ?_ ?_ ?_
            · omega
            · exact Ghost.kp [0, 1, 6, 7] [1000] (by simp only [go_sem, hsu]; first | ((repeat' (first | with_reducible_and_instances rfl | refine st_eq ?_ ?_ ?_ | refine ret_eq ?_ | refine tup_eq ?_ | refine tm_eq ?_ ?_ | refine arr_eq ?_ | refine cells_eq ?_ | refine val_eq ?_ | refine ls_eq ?_ ?_ | refine own_eq ?_ ?_ | refine sl_eq ?_ | refine b_eq ?_ | (refine i_eq ?_; omega))); done) | rfl)
            · trivial
          · skip
            have hyf : fitsB fs (k : Int) m = true := by simpa using hb25
            refine Exec.skipS ?_
            by_cases hj : J = []
            · skip
              subst hj
              have hsu := refF_one hyf hJ
              refine Exec.reg ?_
              iterate 4 (refine Run.op (by simp only [go_sem, List.length_nil, List.map_nil] <;> rfl) (by simp only [go_sem] <;> rfl) ?_)
              refine Run.skp (by simp only [go_sem] <;> rfl) (by simp only [go_sem] <;> rfl) ?_
              refine Run.skp (by simp only [go_sem] <;> rfl) (by simp only [go_sem] <;> rfl) ?_
              refine Run.skp (by simp only [go_sem] <;> rfl) (by simp only [go_sem] <;> rfl) ?_
              refine Run.skp (by simp only [go_sem] <;> rfl) (by simp only [go_sem] <;> rfl) ?_
              refine Run.skp (by simp only [go_sem] <;> rfl) (by simp only [go_sem] <;> rfl) ?_
              refine Run.skp (by simp only [go_sem] <;> rfl) (by simp only [go_sem] <;> rfl) ?_
              refine Run.skp (by simp only [go_sem] <;> rfl) (by simp only [go_sem] <;> rfl) ?_
              refine Run.skp (by simp only [go_sem] <;> rfl) (by simp only [go_sem] <;> rfl) ?_
              refine Run.skp (by simp only [go_sem] <;> rfl) (by simp only [go_sem] <;> rfl) ?_
              refine Run.skp (by simp only [go_sem] <;> rfl) (by simp only [go_sem] <;> rfl) ?_
              refine Run.op (by simp only [go_sem, List.length_nil, List.map_nil] <;> rfl) (by simp only [go_sem] <;> rfl) ?_
              refine Run.nil ?_
              refine Exec.cnd (by simp only [go_sem, List.length_nil, List.map_nil] <;> rfl) (fun hb40 => ?_) (fun hb40 => ?_)
              · exact absurd hb40 (by simp)
              · skip
                refine Exec.reg1 ?_
                iterate 5 (refine Run.op (by simp only [go_sem, List.length_nil, List.map_nil] <;> rfl) (by simp only [go_sem] <;> rfl) ?_)
                refine Run.op (by simp only [go_sem, List.length_nil, List.map_nil]; (try simp (disch := omega) only [if_pos]); (try simp only [go_sem, List.length_nil, List.map_nil]) <;> first | (refine ite_run ⟨by (try simp only [List.length_append, List.length_drop, List.length_take, List.length_map, List.length_cons, List.length_nil, List.length_replicate, List.length_set, List.length_range, Nat.zero_add]); omega, by (try simp only [List.length_append, List.length_drop, List.length_take, List.length_map, List.length_cons, List.length_nil, List.length_replicate, List.length_set, List.length_range, Nat.zero_add]); omega, by repeat (first | exact al_nil | assumption | refine al_app ?_ ?_ | refine al_drop ?_ | refine al_take ?_ | exact al_map (fun _ => rfl) | exact al_rep rfl | refine al_cons rfl ?_)⟩ ?_; simp only [go_sem, List.length_nil, List.map_nil] <;> rfl) | (refine ite_run ⟨by (try simp only [List.length_append, List.length_drop, List.length_take, List.length_map, List.length_cons, List.length_nil, List.length_replicate, List.length_set, List.length_range, Nat.zero_add]); omega, by repeat (first | exact al_nil | assumption | refine al_app ?_ ?_ | refine al_drop ?_ | refine al_take ?_ | exact al_map (fun _ => rfl) | exact al_rep rfl | refine al_cons rfl ?_)⟩ ?_; simp only [go_sem, List.length_nil, List.map_nil] <;> rfl) | rfl) (by simp only [go_sem] <;> rfl) ?_
                refine Run.op (by simp only [go_sem, List.length_nil, List.map_nil] <;> rfl) (by simp only [go_sem] <;> rfl) ?_
                refine Run.nil ?_
                refine BlkK.nrm ?_
                refine Exec.reg1 ?_
                refine Run.op (by simp only [go_sem, List.length_nil, List.map_nil] <;> rfl) (by simp only [go_sem] <;> rfl) ?_
                refine Run.op (by simp only [go_sem, List.length_nil, List.map_nil]; (try simp (disch := omega) only [IntWalk.i64_in, IntWalk.u64_in, if_neg, if_pos])<;> rfl) (by simp only [go_sem] <;> rfl) ?_
                refine Run.op (by simp only [go_sem, List.length_nil, List.map_nil] <;> rfl) (by simp only [go_sem] <;> rfl) ?_
                refine Run.nil ?_
                refine ForK.nxt ?_ ?_ ?_
                · omega
                · exact Ghost.kp [0, 1, 6, 7] [1000] (by simp only [go_sem, List.length_nil, List.map_nil]; first | ((repeat' (first | with_reducible_and_instances rfl | refine st_eq ?_ ?_ ?_ | refine ret_eq ?_ | refine tup_eq ?_ | refine tm_eq ?_ ?_ | refine arr_eq ?_ | refine cells_eq ?_ | refine val_eq ?_ | refine ls_eq ?_ ?_ | refine own_eq ?_ ?_ | refine sl_eq ?_ | refine b_eq ?_ | (refine i_eq ?_; omega))); (all_goals (simp [hsu, encSpan]))) | rfl)
                · trivial
            · skip
              obtain ⟨o, y, hoy⟩ : ∃ o y, J = o ++ [y] := by
                rcases snoc_cases J with h | h
                · exact absurd h hj
                · exact h
              subst hoy
              have hsu := refF_ext hyf hJ
              have hol : o.length + 1 ≤ k := by simpa using hrl
              have g1 : decide (((o.length + 1 : Nat) : Int) > 0) = true := decide_eq_true (by omega)
              have t1 : (((o.length + 1 : Nat) : Int) - 1).toNat = o.length := by omega
              have hg : (o ++ [y])[o.length]? = some y := by simp
              refine Exec.reg ?_
              iterate 4 (refine Run.op (by simp only [go_sem, g1, t1, hg] <;> rfl) (by simp only [go_sem] <;> rfl) ?_)
              refine Run.yes (by simp only [go_sem] <;> rfl) (by simp only [go_sem, g1, t1, hg] <;> rfl) (by simp only [go_sem] <;> rfl) ?_
              refine Run.yes (by simp only [go_sem] <;> rfl) (by simp only [go_sem, g1, t1, hg] <;> rfl) (by simp only [go_sem] <;> rfl) ?_
              refine Run.yes (by simp only [go_sem] <;> rfl) (by simp only [go_sem, g1, t1, hg] <;> rfl) (by simp only [go_sem] <;> rfl) ?_
              refine Run.yes (by simp only [go_sem] <;> rfl) (by simp only [go_sem, g1, t1, hg]; (try simp (disch := omega) only [IntWalk.i64_in, IntWalk.u64_in, if_neg, if_pos])<;> rfl) (by simp only [go_sem] <;> rfl) ?_
              refine Run.yes (by simp only [go_sem] <;> rfl) (by simp only [go_sem, g1, t1, hg]; (try simp (disch := omega) only [if_pos]); (try simp only [go_sem, g1, t1, hg])<;> rfl) (by simp only [go_sem] <;> rfl) ?_
              refine Run.yes (by simp only [go_sem] <;> rfl) (by simp only [go_sem, g1, t1, hg] <;> rfl) (by simp only [go_sem] <;> rfl) ?_
              refine Run.yes (by simp only [go_sem] <;> rfl) (by simp only [go_sem, g1, t1, hg] <;> rfl) (by simp only [go_sem] <;> rfl) ?_
              refine Run.yes (by simp only [go_sem] <;> rfl) (by simp only [go_sem, g1, t1, hg] <;> rfl) (by simp only [go_sem] <;> rfl) ?_
              refine Run.yes (by simp only [go_sem] <;> rfl) (by simp only [go_sem, g1, t1, hg]; (try simp (disch := omega) only [IntWalk.i64_in, IntWalk.u64_in, if_neg, if_pos])<;> rfl) (by simp only [go_sem] <;> rfl) ?_
              refine Run.yes (by simp only [go_sem] <;> rfl) (by simp only [go_sem, g1, t1, hg] <;> rfl) (by simp only [go_sem] <;> rfl) ?_
              refine Run.op (by simp only [go_sem, g1, t1, hg] <;> rfl) (by simp only [go_sem] <;> rfl) ?_
              refine Run.nil ?_
              refine Exec.cnd (by simp only [go_sem, g1, t1, hg] <;> rfl) (fun hb40 => ?_) (fun hb40 => ?_)
              · skip
                have hle : y.hi = (k : Int) - 1 := by simpa using hb40
                rw [if_pos hle] at hsu
                have hsl := set_last (o.map encSpan) (encSpan y) [D.i y.lo, D.i (k : Int)]
                refine Exec.reg1 ?_
                iterate 3 (refine Run.op (by simp only [go_sem, g1, t1, hg] <;> rfl) (by simp only [go_sem] <;> rfl) ?_)
                refine Run.op (by simp only [go_sem, g1, t1, hg]; (try simp (disch := omega) only [IntWalk.i64_in, IntWalk.u64_in, if_neg, if_pos])<;> rfl) (by simp only [go_sem] <;> rfl) ?_
                refine Run.op (by simp only [go_sem, g1, t1, hg] <;> rfl) (by simp only [go_sem] <;> rfl) ?_
                refine Run.op (by simp only [go_sem, g1, t1, hg]; (try simp (disch := omega) only [if_pos]); (try simp only [go_sem, g1, t1, hg])<;> rfl) (by simp only [go_sem] <;> rfl) ?_
                iterate 2 (refine Run.op (by simp only [go_sem, g1, t1, hg] <;> rfl) (by simp only [go_sem] <;> rfl) ?_)
                refine Run.nil ?_
                refine BlkK.nrm ?_
                refine Exec.reg1 ?_
                refine Run.op (by simp only [go_sem, g1, t1, hg] <;> rfl) (by simp only [go_sem] <;> rfl) ?_
                refine Run.op (by simp only [go_sem, g1, t1, hg]; (try simp (disch := omega) only [IntWalk.i64_in, IntWalk.u64_in, if_neg, if_pos])<;> rfl) (by simp only [go_sem] <;> rfl) ?_
                refine Run.op (by simp only [go_sem, g1, t1, hg] <;> rfl) (by simp only [go_sem] <;> rfl) ?_
                refine Run.nil ?_
                refine ForK.nxt ?_ ?_ ?_
                · omega
                · exact Ghost.kp [0, 1, 6, 7] [1000] (by simp only [go_sem, g1, t1, hg]; first | ((repeat' (first | with_reducible_and_instances rfl | refine st_eq ?_ ?_ ?_ | refine ret_eq ?_ | refine tup_eq ?_ | refine tm_eq ?_ ?_ | refine arr_eq ?_ | refine cells_eq ?_ | refine val_eq ?_ | refine ls_eq ?_ ?_ | refine own_eq ?_ ?_ | refine sl_eq ?_ | refine b_eq ?_ | (refine i_eq ?_; omega))); (all_goals (simp [hsu, encSpan]))) | rfl)
                · trivial
              · skip
                have hle : ¬ y.hi = (k : Int) - 1 := by simpa using hb40
                rw [if_neg hle] at hsu
                refine Exec.reg1 ?_
                iterate 5 (refine Run.op (by simp only [go_sem, g1, t1, hg] <;> rfl) (by simp only [go_sem] <;> rfl) ?_)
                refine Run.op (by simp only [go_sem, g1, t1, hg]; (try simp (disch := omega) only [if_pos]); (try simp only [go_sem, g1, t1, hg]) <;> first | (refine ite_run ⟨by (try simp only [List.length_append, List.length_drop, List.length_take, List.length_map, List.length_cons, List.length_nil, List.length_replicate, List.length_set, List.length_range, Nat.zero_add]); omega, by (try simp only [List.length_append, List.length_drop, List.length_take, List.length_map, List.length_cons, List.length_nil, List.length_replicate, List.length_set, List.length_range, Nat.zero_add]); omega, by repeat (first | exact al_nil | assumption | refine al_app ?_ ?_ | refine al_drop ?_ | refine al_take ?_ | exact al_map (fun _ => rfl) | exact al_rep rfl | refine al_cons rfl ?_)⟩ ?_; simp only [go_sem, g1, t1, hg] <;> rfl) | (refine ite_run ⟨by (try simp only [List.length_append, List.length_drop, List.length_take, List.length_map, List.length_cons, List.length_nil, List.length_replicate, List.length_set, List.length_range, Nat.zero_add]); omega, by repeat (first | exact al_nil | assumption | refine al_app ?_ ?_ | refine al_drop ?_ | refine al_take ?_ | exact al_map (fun _ => rfl) | exact al_rep rfl | refine al_cons rfl ?_)⟩ ?_; simp only [go_sem, g1, t1, hg] <;> rfl) | rfl) (by simp only [go_sem] <;> rfl) ?_
                refine Run.op (by simp only [go_sem, g1, t1, hg] <;> rfl) (by simp only [go_sem] <;> rfl) ?_
                refine Run.nil ?_
                refine BlkK.nrm ?_
                refine Exec.reg1 ?_
                refine Run.op (by simp only [go_sem, g1, t1, hg] <;> rfl) (by simp only [go_sem] <;> rfl) ?_
                refine Run.op (by simp only [go_sem, g1, t1, hg]; (try simp (disch := omega) only [IntWalk.i64_in, IntWalk.u64_in, if_neg, if_pos])<;> rfl) (by simp only [go_sem] <;> rfl) ?_
                refine Run.op (by simp only [go_sem, g1, t1, hg] <;> rfl) (by simp only [go_sem] <;> rfl) ?_
                refine Run.nil ?_
                refine ForK.nxt ?_ ?_ ?_
                · omega
                · exact Ghost.kp [0, 1, 6, 7] [1000] (by simp only [go_sem, g1, t1, hg]; first | ((repeat' (first | with_reducible_and_instances rfl | refine st_eq ?_ ?_ ?_ | refine ret_eq ?_ | refine tup_eq ?_ | refine tm_eq ?_ ?_ | refine arr_eq ?_ | refine cells_eq ?_ | refine val_eq ?_ | refine ls_eq ?_ ?_ | refine own_eq ?_ ?_ | refine sl_eq ?_ | refine b_eq ?_ | (refine i_eq ?_; omega))); (all_goals (simp [hsu, encSpan]))) | rfl)
                · trivial
        · skip
          have hge : ¬ (k : Int) < turnD (fs.length : Int) := of_decide_eq_false hb18
          have hke : k = (turnD (fs.length : Int)).toNat := by omega
          have hfe : refF fs m k = fitL fs m := refF_fit hf hm (by omega)
          simp only [hfe]
          have hta : List.take (fitL fs m).length (List.map encSpan (fitL fs m)) = List.map encSpan (fitL fs m) := List.take_of_length_le (by simp)
          refine Exec.exitS ?_
          refine ForK.ext ?_
          refine BlkK.hit ?_
          refine Exec.assocS ?_
          refine Exec.reg ?_
          refine Run.frz 1000 (by simp only [go_sem, hta] <;> rfl) ?_
          iterate 3 (refine Run.op (by simp only [go_sem] <;> rfl) (by simp only [go_sem] <;> rfl) ?_)
          refine Run.nil ?_
          refine Exec.cndS (by simp only [go_sem] <;> rfl) (fun hb56 => ?_) (fun hb56 => ?_)
          · skip
            have hn : fitL fs m = [] := List.eq_nil_of_length_eq_zero (Int.ofNat_inj.1 (by simpa using hb56))
            have hr : fitR fs m = ([], 4) := by rw [fit_is hf hm, hn]; rfl
            refine Exec.assocS ?_
            refine Exec.reg ?_
            iterate 2 (refine Run.op (by simp only [go_sem, hr] <;> rfl) (by simp only [go_sem] <;> rfl) ?_)
            refine Run.nild 4 2 (by simp only [go_sem] <;> rfl) (by simp only [go_sem] <;> rfl) ?_
            refine Run.nil ?_
            refine Exec.retS ?_
            exact Ends.fin [] (rs := [.tmp 4, .tmp 5]) rfl (by simp only [go_sem, hr] <;> rfl) (by simp only [go_sem, hr] <;> first | rfl | ((repeat' (first | with_reducible_and_instances rfl | refine st_eq ?_ ?_ ?_ | refine ret_eq ?_ | refine tup_eq ?_ | refine tm_eq ?_ ?_ | refine arr_eq ?_ | refine cells_eq ?_ | refine val_eq ?_ | refine ls_eq ?_ ?_ | refine own_eq ?_ ?_ | refine sl_eq ?_ | refine b_eq ?_ | (refine i_eq ?_; omega))); done))
          · skip
            have hn : ¬ fitL fs m = [] := fun h => by rw [h] at hb56; simp at hb56
            have hr : fitR fs m = (fitL fs m, 0) := by rw [fit_is hf hm, if_neg hn]
            refine Exec.skipS ?_
            refine Exec.reg ?_
            iterate 3 (refine Run.op (by simp only [go_sem, hr] <;> rfl) (by simp only [go_sem] <;> rfl) ?_)
            refine Run.nil ?_
            exact Ends.fin [] (rs := [.tmp 4, .tmp 5]) rfl (by simp only [go_sem, hr] <;> rfl) (by simp only [go_sem, hr] <;> first | rfl | ((repeat' (first | with_reducible_and_instances rfl | refine st_eq ?_ ?_ ?_ | refine ret_eq ?_ | refine tup_eq ?_ | refine tm_eq ?_ ?_ | refine arr_eq ?_ | refine cells_eq ?_ | refine val_eq ?_ | refine ls_eq ?_ ?_ | refine own_eq ?_ ?_ | refine sl_eq ?_ | refine b_eq ?_ | (refine i_eq ?_; omega))); done))

set_option maxRecDepth 20000 in
set_option maxHeartbeats 8000000 in
/-- meterworks/meterworkslaw02.DrumFits -/
theorem c_law_DrumFits (fs : List Int) (m : Int) : Contract Try.prog 4 [.leaf (.d (intsD fs)), .int m] (.bool (true)) [] := by
  refine con_of follows_mixed Try.func4 rfl (by simp only [List.length_cons, List.length_nil, Try.ntmps4]; omega) (by kernel_rfl) rfl ?_
  refine Exec.reg ?_
  refine Run.op (by simp only [go_sem] <;> rfl) (by simp only [go_sem] <;> rfl) ?_
  refine Run.nil ?_
  refine Exec.assocS ?_
  by_cases hc : (fs.length : Int) > 2
  · skip
    have g1 : decide ((fs.length : Int) > 2) = true := decide_eq_true hc
    by_cases hc2 : (fs.length : Int) ≤ 6
    · skip
      have g2 : decide ((fs.length : Int) ≤ 6) = true := decide_eq_true hc2
      refine Exec.reg ?_
      iterate 4 (refine Run.op (by simp only [go_sem, g1, g2] <;> rfl) (by simp only [go_sem] <;> rfl) ?_)
      refine Run.yes (by simp only [go_sem] <;> rfl) (by simp only [go_sem, g1, g2] <;> rfl) (by simp only [go_sem] <;> rfl) ?_
      refine Run.yes (by simp only [go_sem] <;> rfl) (by simp only [go_sem, g1, g2] <;> rfl) (by simp only [go_sem] <;> rfl) ?_
      refine Run.yes (by simp only [go_sem] <;> rfl) (by simp only [go_sem, g1, g2] <;> rfl) (by simp only [go_sem] <;> rfl) ?_
      iterate 2 (refine Run.op (by simp only [go_sem, g1, g2] <;> rfl) (by simp only [go_sem] <;> rfl) ?_)
      refine Run.skp (by simp only [go_sem] <;> rfl) (by simp only [go_sem] <;> rfl) ?_
      refine Run.skp (by simp only [go_sem] <;> rfl) (by simp only [go_sem] <;> rfl) ?_
      refine Run.skp (by simp only [go_sem] <;> rfl) (by simp only [go_sem] <;> rfl) ?_
      refine Run.op (by simp only [go_sem, g1, g2] <;> rfl) (by simp only [go_sem] <;> rfl) ?_
      refine Run.nil ?_
      refine Exec.cndS (by simp only [go_sem, g1, g2] <;> rfl) (fun hb21 => ?_) (fun hb21 => ?_)
      · skip
        refine Exec.assocS ?_
        refine Exec.reg ?_
        refine Run.cal (c_law_awake) (by simp only [go_sem]) (by simp only [go_sem, g1, g2] <;> rfl) (by exact trivial) (fr0) (by simp only [go_sem, g1, g2] <;> rfl) ?_
        refine Run.op (by simp only [go_sem, g1, g2] <;> rfl) (by simp only [go_sem] <;> rfl) ?_
        refine Run.nil ?_
        refine Exec.retS ?_
        exact Ends.fin [] (rs := [.tmp 4]) rfl (by simp only [go_sem, g1, g2] <;> rfl) (by simp only [go_sem, g1, g2] <;> first | rfl | ((repeat' (first | with_reducible_and_instances rfl | refine st_eq ?_ ?_ ?_ | refine ret_eq ?_ | refine tup_eq ?_ | refine tm_eq ?_ ?_ | refine arr_eq ?_ | refine cells_eq ?_ | refine val_eq ?_ | refine ls_eq ?_ ?_ | refine own_eq ?_ ?_ | refine sl_eq ?_ | refine b_eq ?_ | (refine i_eq ?_; omega))); done))
      · exact absurd hb21 (by simp)
    · skip
      have g2 : decide ((fs.length : Int) ≤ 6) = false := decide_eq_false hc2
      have h2 : figsB fs = true → fs.length ≤ 2 := fun h => by have := (figs_iff.1 h).2.2; omega
      refine Exec.reg ?_
      iterate 4 (refine Run.op (by simp only [go_sem, g1, g2] <;> rfl) (by simp only [go_sem] <;> rfl) ?_)
      refine Run.yes (by simp only [go_sem] <;> rfl) (by simp only [go_sem, g1, g2] <;> rfl) (by simp only [go_sem] <;> rfl) ?_
      refine Run.yes (by simp only [go_sem] <;> rfl) (by simp only [go_sem, g1, g2] <;> rfl) (by simp only [go_sem] <;> rfl) ?_
      refine Run.yes (by simp only [go_sem] <;> rfl) (by simp only [go_sem, g1, g2] <;> rfl) (by simp only [go_sem] <;> rfl) ?_
      iterate 2 (refine Run.op (by simp only [go_sem, g1, g2] <;> rfl) (by simp only [go_sem] <;> rfl) ?_)
      refine Run.yes (by simp only [go_sem] <;> rfl) (by simp only [go_sem, g1, g2] <;> rfl) (by simp only [go_sem] <;> rfl) ?_
      refine Run.yes (by simp only [go_sem] <;> rfl) (by simp only [go_sem, g1, g2] <;> rfl) (by simp only [go_sem] <;> rfl) ?_
      refine Run.yes (by simp only [go_sem] <;> rfl) (by simp only [go_sem, g1, g2] <;> rfl) (by simp only [go_sem] <;> rfl) ?_
      refine Run.op (by simp only [go_sem, g1, g2] <;> rfl) (by simp only [go_sem] <;> rfl) ?_
      refine Run.nil ?_
      refine Exec.cndS (by simp only [go_sem, g1, g2] <;> rfl) (fun hb21 => ?_) (fun hb21 => ?_)
      · skip
        refine Exec.assocS ?_
        refine Exec.reg ?_
        refine Run.cal (c_law_awake) (by simp only [go_sem]) (by simp only [go_sem, g1, g2] <;> rfl) (by exact trivial) (fr0) (by simp only [go_sem, g1, g2] <;> rfl) ?_
        refine Run.op (by simp only [go_sem, g1, g2] <;> rfl) (by simp only [go_sem] <;> rfl) ?_
        refine Run.nil ?_
        refine Exec.retS ?_
        exact Ends.fin [] (rs := [.tmp 4]) rfl (by simp only [go_sem, g1, g2] <;> rfl) (by simp only [go_sem, g1, g2] <;> first | rfl | ((repeat' (first | with_reducible_and_instances rfl | refine st_eq ?_ ?_ ?_ | refine ret_eq ?_ | refine tup_eq ?_ | refine tm_eq ?_ ?_ | refine arr_eq ?_ | refine cells_eq ?_ | refine val_eq ?_ | refine ls_eq ?_ ?_ | refine own_eq ?_ ?_ | refine sl_eq ?_ | refine b_eq ?_ | (refine i_eq ?_; omega))); done))
      · skip
        have hl : fs.length ≤ 1000 := by have := of_decide_eq_false hb21; omega
        refine Exec.skipS ?_
        refine Exec.reg ?_
        iterate 2 (refine Run.op (by simp only [go_sem, g1, g2, decide_true, beq_self_eq_true] <;> rfl) (by simp only [go_sem] <;> rfl) ?_)
        refine Run.cal (c_drum_Fit fs m hl) (by simp only [go_sem]) (by simp only [go_sem, g1, g2, decide_true, beq_self_eq_true] <;> rfl) (by exact ⟨by first | exact WkR.pure rfl | exact WkR.nil _ | exact WkR.int (by first | omega | (simp; done) | (simp; omega)), by first | exact WkR.pure rfl | exact WkR.nil _ | exact WkR.int (by first | omega | (simp; done) | (simp; omega)), trivial⟩) (fr0) (by simp only [go_sem, g1, g2, decide_true, beq_self_eq_true] <;> rfl) ?_
        iterate 5 (refine Run.op (by simp only [go_sem, g1, g2, decide_true, beq_self_eq_true] <;> rfl) (by simp only [go_sem] <;> rfl) ?_)
        refine Run.nil ?_
        refine Exec.reg ?_
        iterate 2 (refine Run.op (by simp only [go_sem, g1, g2, decide_true, beq_self_eq_true] <;> rfl) (by simp only [go_sem] <;> rfl) ?_)
        refine Run.cal (c_meterworksref02_Fit fs m hl h2) (by simp only [go_sem]) (by simp only [go_sem, g1, g2, decide_true, beq_self_eq_true] <;> rfl) (by exact ⟨by first | exact WkR.pure rfl | exact WkR.nil _ | exact WkR.int (by first | omega | (simp; done) | (simp; omega)), by first | exact WkR.pure rfl | exact WkR.nil _ | exact WkR.int (by first | omega | (simp; done) | (simp; omega)), trivial⟩) (fr0) (by simp only [go_sem, g1, g2, decide_true, beq_self_eq_true] <;> rfl) ?_
        iterate 5 (refine Run.op (by simp only [go_sem, g1, g2, decide_true, beq_self_eq_true] <;> rfl) (by simp only [go_sem] <;> rfl) ?_)
        refine Run.nil ?_
        refine Exec.reg ?_
        iterate 2 (refine Run.op (by simp only [go_sem, g1, g2, decide_true, beq_self_eq_true] <;> rfl) (by simp only [go_sem] <;> rfl) ?_)
        refine Run.cal (c_meterworksref02_Spans ((fitR fs m).1) ((fitR fs m).1) (by have := len_fit fs m; omega) (by have := len_fit fs m; omega)) (by simp only [go_sem]) (by simp only [go_sem, g1, g2, decide_true, beq_self_eq_true] <;> rfl) (by exact ⟨by first | exact WkR.pure rfl | exact WkR.nil _ | exact WkR.int (by first | omega | (simp; done) | (simp; omega)), by first | exact WkR.pure rfl | exact WkR.nil _ | exact WkR.int (by first | omega | (simp; done) | (simp; omega)), trivial⟩) (fr0) (by simp only [go_sem, g1, g2, decide_true, beq_self_eq_true] <;> rfl) ?_
        refine Run.op (by simp only [go_sem, g1, g2, decide_true, beq_self_eq_true] <;> rfl) (by simp only [go_sem] <;> rfl) ?_
        refine Run.yes (by simp only [go_sem] <;> rfl) (by simp only [go_sem, g1, g2, decide_true, beq_self_eq_true] <;> rfl) (by simp only [go_sem] <;> rfl) ?_
        refine Run.yes (by simp only [go_sem] <;> rfl) (by simp only [go_sem, g1, g2, decide_true, beq_self_eq_true] <;> rfl) (by simp only [go_sem] <;> rfl) ?_
        refine Run.yes (by simp only [go_sem] <;> rfl) (by simp only [go_sem, g1, g2, decide_true, beq_self_eq_true] <;> rfl) (by simp only [go_sem] <;> rfl) ?_
        iterate 2 (refine Run.op (by simp only [go_sem, g1, g2, decide_true, beq_self_eq_true] <;> rfl) (by simp only [go_sem] <;> rfl) ?_)
        refine Run.calw (by simp only [go_sem] <;> rfl) (c_law_awake) (by simp only [go_sem]) (by simp only [go_sem, g1, g2, decide_true, beq_self_eq_true] <;> rfl) (by simp only [go_sem, g1, g2, decide_true, beq_self_eq_true] <;> rfl) (by exact trivial) (fr0) (by simp only [go_sem, g1, g2, decide_true, beq_self_eq_true] <;> rfl) ?_
        iterate 2 (refine Run.op (by simp only [go_sem, g1, g2, decide_true, beq_self_eq_true] <;> rfl) (by simp only [go_sem] <;> rfl) ?_)
        refine Run.nil ?_
        exact Ends.fin [] (rs := [.tmp 4]) rfl (by simp only [go_sem, g1, g2, decide_true, beq_self_eq_true] <;> rfl) (by simp only [go_sem, g1, g2, decide_true, beq_self_eq_true] <;> first | rfl | ((repeat' (first | with_reducible_and_instances rfl | refine st_eq ?_ ?_ ?_ | refine ret_eq ?_ | refine tup_eq ?_ | refine tm_eq ?_ ?_ | refine arr_eq ?_ | refine cells_eq ?_ | refine val_eq ?_ | refine ls_eq ?_ ?_ | refine own_eq ?_ ?_ | refine sl_eq ?_ | refine b_eq ?_ | (refine i_eq ?_; omega))); done))
  · skip
    have g1 : decide ((fs.length : Int) > 2) = false := decide_eq_false hc
    have h2 : figsB fs = true → fs.length ≤ 2 := fun _ => by omega
    refine Exec.reg ?_
    iterate 4 (refine Run.op (by simp only [go_sem, g1] <;> rfl) (by simp only [go_sem] <;> rfl) ?_)
    refine Run.skp (by simp only [go_sem] <;> rfl) (by simp only [go_sem] <;> rfl) ?_
    refine Run.skp (by simp only [go_sem] <;> rfl) (by simp only [go_sem] <;> rfl) ?_
    refine Run.skp (by simp only [go_sem] <;> rfl) (by simp only [go_sem] <;> rfl) ?_
    iterate 2 (refine Run.op (by simp only [go_sem, g1] <;> rfl) (by simp only [go_sem] <;> rfl) ?_)
    refine Run.yes (by simp only [go_sem] <;> rfl) (by simp only [go_sem, g1] <;> rfl) (by simp only [go_sem] <;> rfl) ?_
    refine Run.yes (by simp only [go_sem] <;> rfl) (by simp only [go_sem, g1] <;> rfl) (by simp only [go_sem] <;> rfl) ?_
    refine Run.yes (by simp only [go_sem] <;> rfl) (by simp only [go_sem, g1] <;> rfl) (by simp only [go_sem] <;> rfl) ?_
    refine Run.op (by simp only [go_sem, g1] <;> rfl) (by simp only [go_sem] <;> rfl) ?_
    refine Run.nil ?_
    refine Exec.cndS (by simp only [go_sem, g1] <;> rfl) (fun hb21 => ?_) (fun hb21 => ?_)
    · skip
      refine Exec.assocS ?_
      refine Exec.reg ?_
      refine Run.cal (c_law_awake) (by simp only [go_sem]) (by simp only [go_sem, g1] <;> rfl) (by exact trivial) (fr0) (by simp only [go_sem, g1] <;> rfl) ?_
      refine Run.op (by simp only [go_sem, g1] <;> rfl) (by simp only [go_sem] <;> rfl) ?_
      refine Run.nil ?_
      refine Exec.retS ?_
      exact Ends.fin [] (rs := [.tmp 4]) rfl (by simp only [go_sem, g1] <;> rfl) (by simp only [go_sem, g1] <;> first | rfl | ((repeat' (first | with_reducible_and_instances rfl | refine st_eq ?_ ?_ ?_ | refine ret_eq ?_ | refine tup_eq ?_ | refine tm_eq ?_ ?_ | refine arr_eq ?_ | refine cells_eq ?_ | refine val_eq ?_ | refine ls_eq ?_ ?_ | refine own_eq ?_ ?_ | refine sl_eq ?_ | refine b_eq ?_ | (refine i_eq ?_; omega))); done))
    · skip
      have hl : fs.length ≤ 1000 := by have := of_decide_eq_false hb21; omega
      refine Exec.skipS ?_
      refine Exec.reg ?_
      iterate 2 (refine Run.op (by simp only [go_sem, g1, decide_true, beq_self_eq_true] <;> rfl) (by simp only [go_sem] <;> rfl) ?_)
      refine Run.cal (c_drum_Fit fs m hl) (by simp only [go_sem]) (by simp only [go_sem, g1, decide_true, beq_self_eq_true] <;> rfl) (by exact ⟨by first | exact WkR.pure rfl | exact WkR.nil _ | exact WkR.int (by first | omega | (simp; done) | (simp; omega)), by first | exact WkR.pure rfl | exact WkR.nil _ | exact WkR.int (by first | omega | (simp; done) | (simp; omega)), trivial⟩) (fr0) (by simp only [go_sem, g1, decide_true, beq_self_eq_true] <;> rfl) ?_
      iterate 5 (refine Run.op (by simp only [go_sem, g1, decide_true, beq_self_eq_true] <;> rfl) (by simp only [go_sem] <;> rfl) ?_)
      refine Run.nil ?_
      refine Exec.reg ?_
      iterate 2 (refine Run.op (by simp only [go_sem, g1, decide_true, beq_self_eq_true] <;> rfl) (by simp only [go_sem] <;> rfl) ?_)
      refine Run.cal (c_meterworksref02_Fit fs m hl h2) (by simp only [go_sem]) (by simp only [go_sem, g1, decide_true, beq_self_eq_true] <;> rfl) (by exact ⟨by first | exact WkR.pure rfl | exact WkR.nil _ | exact WkR.int (by first | omega | (simp; done) | (simp; omega)), by first | exact WkR.pure rfl | exact WkR.nil _ | exact WkR.int (by first | omega | (simp; done) | (simp; omega)), trivial⟩) (fr0) (by simp only [go_sem, g1, decide_true, beq_self_eq_true] <;> rfl) ?_
      iterate 5 (refine Run.op (by simp only [go_sem, g1, decide_true, beq_self_eq_true] <;> rfl) (by simp only [go_sem] <;> rfl) ?_)
      refine Run.nil ?_
      refine Exec.reg ?_
      iterate 2 (refine Run.op (by simp only [go_sem, g1, decide_true, beq_self_eq_true] <;> rfl) (by simp only [go_sem] <;> rfl) ?_)
      refine Run.cal (c_meterworksref02_Spans ((fitR fs m).1) ((fitR fs m).1) (by have := len_fit fs m; omega) (by have := len_fit fs m; omega)) (by simp only [go_sem]) (by simp only [go_sem, g1, decide_true, beq_self_eq_true] <;> rfl) (by exact ⟨by first | exact WkR.pure rfl | exact WkR.nil _ | exact WkR.int (by first | omega | (simp; done) | (simp; omega)), by first | exact WkR.pure rfl | exact WkR.nil _ | exact WkR.int (by first | omega | (simp; done) | (simp; omega)), trivial⟩) (fr0) (by simp only [go_sem, g1, decide_true, beq_self_eq_true] <;> rfl) ?_
      refine Run.op (by simp only [go_sem, g1, decide_true, beq_self_eq_true] <;> rfl) (by simp only [go_sem] <;> rfl) ?_
      refine Run.yes (by simp only [go_sem] <;> rfl) (by simp only [go_sem, g1, decide_true, beq_self_eq_true] <;> rfl) (by simp only [go_sem] <;> rfl) ?_
      refine Run.yes (by simp only [go_sem] <;> rfl) (by simp only [go_sem, g1, decide_true, beq_self_eq_true] <;> rfl) (by simp only [go_sem] <;> rfl) ?_
      refine Run.yes (by simp only [go_sem] <;> rfl) (by simp only [go_sem, g1, decide_true, beq_self_eq_true] <;> rfl) (by simp only [go_sem] <;> rfl) ?_
      iterate 2 (refine Run.op (by simp only [go_sem, g1, decide_true, beq_self_eq_true] <;> rfl) (by simp only [go_sem] <;> rfl) ?_)
      refine Run.calw (by simp only [go_sem] <;> rfl) (c_law_awake) (by simp only [go_sem]) (by simp only [go_sem, g1, decide_true, beq_self_eq_true] <;> rfl) (by simp only [go_sem, g1, decide_true, beq_self_eq_true] <;> rfl) (by exact trivial) (fr0) (by simp only [go_sem, g1, decide_true, beq_self_eq_true] <;> rfl) ?_
      iterate 2 (refine Run.op (by simp only [go_sem, g1, decide_true, beq_self_eq_true] <;> rfl) (by simp only [go_sem] <;> rfl) ?_)
      refine Run.nil ?_
      exact Ends.fin [] (rs := [.tmp 4]) rfl (by simp only [go_sem, g1, decide_true, beq_self_eq_true] <;> rfl) (by simp only [go_sem, g1, decide_true, beq_self_eq_true] <;> first | rfl | ((repeat' (first | with_reducible_and_instances rfl | refine st_eq ?_ ?_ ?_ | refine ret_eq ?_ | refine tup_eq ?_ | refine tm_eq ?_ ?_ | refine arr_eq ?_ | refine cells_eq ?_ | refine val_eq ?_ | refine ls_eq ?_ ?_ | refine own_eq ?_ ?_ | refine sl_eq ?_ | refine b_eq ?_ | (refine i_eq ?_; omega))); done))

end Go.Mw
namespace Go.Mw
open Go.Proofs
open Go.Dr
attribute [local go_sem] decide_true beq_self_eq_true bne_self_eq_false
theorem any_takeS {p : Go.Dr.Span → Bool} {l : List Go.Dr.Span} {k : Nat} {x : Go.Dr.Span} (h : l[k]? = some x) : (l.take (k + 1)).any p = ((l.take k).any p || p x) := by
  rw [take_succ_snoc h, List.any_append]; simp
theorem tmod_in {a n : Int} (ha : 0 ≤ a) (hn : 0 < n) : 0 ≤ a.tmod n ∧ a.tmod n < n := ⟨Int.tmod_nonneg _ ha, Int.tmod_lt_of_pos _ hn⟩
set_option maxRecDepth 20000 in
set_option maxHeartbeats 64000000 in
/-- meterworks/meterworkslaw02.DrumSpans -/
theorem c_law_DrumSpans (fs : List Int) (m more : Int) (byN : Nat) (hby : byN ≤ 4294967295) : Contract Try.prog 6 [.leaf (.d (intsD fs)), .int m, .int more, .raw (.int .u32 (byN : Int))] (.bool true) [] := by
  refine con_of follows_mixed Try.func6 rfl (by simp only [List.length_cons, List.length_nil, Try.ntmps6]; omega) (by kernel_rfl) rfl ?_
  refine Exec.reg ?_
  refine Run.op (by simp only [go_sem] <;> rfl) (by simp only [go_sem] <;> rfl) ?_
  refine Run.nil ?_
  refine Exec.assocS ?_
  refine Exec.reg ?_
  iterate 3 (refine Run.op (by simp only [go_sem] <;> rfl) (by simp only [go_sem] <;> rfl) ?_)
  refine Run.nil ?_
  refine Exec.cndS (by simp only [go_sem] <;> rfl) (fun hb25 => ?_) (fun hb25 => ?_)
  · skip
    refine Exec.assocS ?_
    refine Exec.reg ?_
    refine Run.cal (c_law_awake) (by simp only [go_sem]) (by simp only [go_sem] <;> rfl) (by exact trivial) (fr0) (by simp only [go_sem] <;> rfl) ?_
    refine Run.op (by simp only [go_sem] <;> rfl) (by simp only [go_sem] <;> rfl) ?_
    refine Run.nil ?_
    refine Exec.retS ?_
    exact Ends.fin [] (rs := [.tmp 8]) rfl (by simp only [go_sem] <;> rfl) (by simp only [go_sem] <;> first | rfl | ((repeat' (first | with_reducible_and_instances rfl | refine st_eq ?_ ?_ ?_ | refine ret_eq ?_ | refine tup_eq ?_ | refine tm_eq ?_ ?_ | refine arr_eq ?_ | refine cells_eq ?_ | refine val_eq ?_ | refine ls_eq ?_ ?_ | refine own_eq ?_ ?_ | refine sl_eq ?_ | refine b_eq ?_ | (refine i_eq ?_; omega))); done))
  have hl20 : fs.length ≤ 20 := by have := of_decide_eq_false hb25; omega
  have hl : fs.length ≤ 1000 := by omega
  refine Exec.skipS ?_
  refine Exec.reg ?_
  iterate 2 (refine Run.op (by simp only [go_sem] <;> rfl) (by simp only [go_sem] <;> rfl) ?_)
  refine Run.cal (c_drum_Fit fs m hl) (by simp only [go_sem]) (by simp only [go_sem] <;> rfl) (by exact ⟨by first | exact WkR.pure rfl | exact WkR.nil _ | exact WkR.int (by first | omega | (simp; done) | (simp; omega)), by first | exact WkR.pure rfl | exact WkR.nil _ | exact WkR.int (by first | omega | (simp; done) | (simp; omega)), trivial⟩) (fr0) (by simp only [go_sem] <;> rfl) ?_
  iterate 5 (refine Run.op (by simp only [go_sem] <;> rfl) (by simp only [go_sem] <;> rfl) ?_)
  refine Run.nil ?_
  refine Exec.assocS ?_
  refine Exec.reg ?_
  iterate 2 (refine Run.op (by simp only [go_sem] <;> rfl) (by simp only [go_sem] <;> rfl) ?_)
  refine Run.nil ?_
  refine Exec.cndS (by simp only [go_sem] <;> rfl) (fun hb34 => ?_) (fun hb34 => ?_)
  · skip
    have h0 : ¬ (fitR fs m).2 = 0 := by simpa using hb34
    obtain ⟨e1, e2⟩ := fit_err h0
    have e3 : ((fitR fs m).2 == 4) = (figsB fs && decide (m ≥ 0) && decide (m ≤ 999)) := by rw [e2, Bool.and_assoc]
    refine Exec.assocS ?_
    refine Exec.reg ?_
    refine Run.op (by simp only [go_sem] <;> rfl) (by simp only [go_sem] <;> rfl) ?_
    refine Run.cal (c_meterworksref02_Figures fs hl) (by simp only [go_sem]) (by simp only [go_sem, e1, e3, List.length_nil, Bool.and_assoc] <;> rfl) (by exact ⟨by first | exact WkR.pure rfl | exact WkR.nil _ | exact WkR.int (by first | omega | (simp; done) | (simp; omega)), trivial⟩) (fr0) (by simp only [go_sem, e1, e3, List.length_nil, Bool.and_assoc] <;> rfl) ?_
    refine Run.op (by simp only [go_sem, e1, e3, List.length_nil, Bool.and_assoc] <;> rfl) (by simp only [go_sem] <;> rfl) ?_
    refine Run.gop (by simp only [go_sem] <;> rfl) (by simp only [go_sem] <;> rfl) (by simp only [go_sem] <;> rfl) ?_
    refine Run.gop (by simp only [go_sem] <;> rfl) (by simp only [go_sem, e1, e3, List.length_nil, Bool.and_assoc] <;> rfl) (by simp only [go_sem] <;> rfl) ?_
    iterate 2 (refine Run.op (by simp only [go_sem, e1, e3, List.length_nil, Bool.and_assoc] <;> rfl) (by simp only [go_sem] <;> rfl) ?_)
    refine Run.gop (by simp only [go_sem] <;> rfl) (by simp only [go_sem] <;> rfl) (by simp only [go_sem] <;> rfl) ?_
    refine Run.gop (by simp only [go_sem] <;> rfl) (by simp only [go_sem, e1, e3, List.length_nil, Bool.and_assoc] <;> rfl) (by simp only [go_sem] <;> rfl) ?_
    refine Run.op (by simp only [go_sem, e1, e3, List.length_nil, Bool.and_assoc] <;> rfl) (by simp only [go_sem] <;> rfl) ?_
    refine Run.op (by simp only [go_sem] <;> rfl) (by simp only [go_sem] <;> rfl) ?_
    refine Run.nil ?_
    refine Exec.assocS ?_
    refine Exec.reg ?_
    refine Run.op (by simp only [go_sem] <;> rfl) (by simp only [go_sem] <;> rfl) ?_
    iterate 3 (refine Run.op (by simp only [go_sem, e1, e3, List.length_nil, Bool.and_assoc] <;> rfl) (by simp only [go_sem] <;> rfl) ?_)
    refine Run.yes (by simp only [go_sem] <;> rfl) (by simp only [go_sem] <;> rfl) (by simp only [go_sem] <;> rfl) ?_
    refine Run.yes (by simp only [go_sem] <;> rfl) (by simp only [go_sem, e1, e3, List.length_nil, Bool.and_assoc] <;> rfl) (by simp only [go_sem] <;> rfl) ?_
    refine Run.yes (by simp only [go_sem] <;> rfl) (by simp only [go_sem] <;> rfl) (by simp only [go_sem] <;> rfl) ?_
    refine Run.yes (by simp only [go_sem] <;> rfl) (by simp only [go_sem, e1, e3, List.length_nil, Bool.and_assoc] <;> rfl) (by simp only [go_sem] <;> rfl) ?_
    iterate 2 (refine Run.op (by simp only [go_sem, e1, e3, List.length_nil, Bool.and_assoc] <;> rfl) (by simp only [go_sem] <;> rfl) ?_)
    refine Run.calw (by simp only [go_sem] <;> rfl) (c_law_awake) (by simp only [go_sem]) (by simp only [go_sem, e1, e3, List.length_nil, Bool.and_assoc] <;> rfl) (by simp only [go_sem, e1, e3, List.length_nil, Bool.and_assoc] <;> rfl) (by exact trivial) (fr0) (by simp only [go_sem, e1, e3, List.length_nil, Bool.and_assoc] <;> rfl) ?_
    refine Run.op (by simp only [go_sem, e1, e3, List.length_nil, Bool.and_assoc] <;> rfl) (by simp only [go_sem] <;> rfl) ?_
    refine Run.op (by simp only [go_sem] <;> rfl) (by simp only [go_sem] <;> rfl) ?_
    refine Run.nil ?_
    refine Exec.retS ?_
    exact Ends.fin [] (rs := [.tmp 8]) rfl (by simp only [go_sem, e1, e3, List.length_nil, Bool.and_assoc] <;> rfl) (by simp only [go_sem, e1, e3, List.length_nil, Bool.and_assoc] <;> first | rfl | ((repeat' (first | with_reducible_and_instances rfl | refine st_eq ?_ ?_ ?_ | refine ret_eq ?_ | refine tup_eq ?_ | refine tm_eq ?_ ?_ | refine arr_eq ?_ | refine cells_eq ?_ | refine val_eq ?_ | refine ls_eq ?_ ?_ | refine own_eq ?_ ?_ | refine sl_eq ?_ | refine b_eq ?_ | (refine i_eq ?_; omega))); done))
  have h0 : (fitR fs m).2 = 0 := by simpa using hb34
  obtain ⟨hf, hm, e1, hne⟩ := fit_zero h0
  obtain ⟨hfs, hl1, hl6⟩ := figs_iff.1 hf
  have hfr : fitR fs m = (fitL fs m, 0) := Prod.ext e1 h0
  have hgap := fit_ok hf hm
  have htn : turnD (fs.length : Int) = 1000 * pow10 fs.length := rfl
  have htb := turn_bnd (n := (fs.length : Int)) (by omega)
  have hfb := fitl_bnd hf hm
  have hSl : (fitL fs m).length ≤ 100 := by have := len_fit fs m; rw [e1] at this; exact this
  have g1 : (((fitL fs m).length : Int) == 0) = false := by rw [beq_eq_false_iff_ne]; have := List.length_pos_iff.2 hne; omega
  obtain ⟨tt, htt⟩ : ∃ x, ((byN : Nat) : Int).tmod (turnD (fs.length : Int)) = x := ⟨_, rfl⟩
  have hti := tmod_in (a := (byN : Int)) (n := turnD (fs.length : Int)) (by omega) (by omega)
  rw [htt] at hti
  have hz : ¬ turnD (fs.length : Int) = 0 := by omega
  have hui : IntKind.i64.wrap (byN : Int) = (byN : Int) := IntWalk.i64_in _ (by omega)
  refine Exec.skipS ?_
  refine Exec.assocS ?_
  refine Exec.reg ?_
  refine Run.op (by simp only [go_sem] <;> rfl) (by simp only [go_sem] <;> rfl) ?_
  iterate 3 (refine Run.op (by simp only [go_sem, hfr, g1, hf, Bool.not_true, htt, hz, hui] <;> rfl) (by simp only [go_sem] <;> rfl) ?_)
  refine Run.yes (by simp only [go_sem] <;> rfl) (by simp only [go_sem] <;> rfl) (by simp only [go_sem] <;> rfl) ?_
  refine Run.calw (by simp only [go_sem] <;> rfl) (c_meterworksref02_Figures fs hl) (by simp only [go_sem]) (by simp only [go_sem, hfr, g1, hf, Bool.not_true, htt, hz, hui] <;> rfl) (by simp only [go_sem, hfr, g1, hf, Bool.not_true, htt, hz, hui] <;> rfl) (by exact ⟨by first | exact WkR.pure rfl | exact WkR.nil _ | exact WkR.int (by first | omega | (simp; done) | (simp; omega)), trivial⟩) (fr0) (by simp only [go_sem, hfr, g1, hf, Bool.not_true, htt, hz, hui] <;> rfl) ?_
  refine Run.yes (by simp only [go_sem] <;> rfl) (by simp only [go_sem, hfr, g1, hf, Bool.not_true, htt, hz, hui] <;> rfl) (by simp only [go_sem] <;> rfl) ?_
  refine Run.op (by simp only [go_sem, hfr, g1, hf, Bool.not_true, htt, hz, hui] <;> rfl) (by simp only [go_sem] <;> rfl) ?_
  refine Run.nil ?_
  refine Exec.cndS (by simp only [go_sem, hfr, g1, hf, Bool.not_true, htt, hz, hui] <;> rfl) (fun hb64 => ?_) (fun hb64 => ?_)
  · exact absurd hb64 (by simp)
  refine Exec.skipS ?_
  refine Exec.reg ?_
  refine Run.op (by simp only [go_sem] <;> rfl) (by simp only [go_sem] <;> rfl) ?_
  refine Run.op (by simp only [go_sem, hfr, g1, hf, Bool.not_true, htt, hz, hui] <;> rfl) (by simp only [go_sem] <;> rfl) ?_
  refine Run.cal (c_meterworksref02_Turn (fs.length : Int) (by omega)) (by simp only [go_sem]) (by simp only [go_sem, hfr, g1, hf, Bool.not_true, htt, hz, hui] <;> rfl) (by exact ⟨by first | exact WkR.pure rfl | exact WkR.nil _ | exact WkR.int (by first | omega | (simp; done) | (simp; omega)), trivial⟩) (fr0) (by simp only [go_sem, hfr, g1, hf, Bool.not_true, htt, hz, hui] <;> rfl) ?_
  refine Run.op (by simp only [go_sem] <;> rfl) (by simp only [go_sem] <;> rfl) ?_
  refine Run.nil ?_
  refine Exec.assocS ?_
  refine Exec.reg ?_
  refine Run.op (by simp only [go_sem] <;> rfl) (by simp only [go_sem] <;> rfl) ?_
  refine Run.nil ?_
  refine Exec.blk ?_
  refine Exec.forA [0, 1, 2, 3, 9, 12, 13] [] ((fitL fs m).length) (fun k => [.slot 13 (.int k)]) (fun _ => True) (fun k => by simp only [go_sem] <;> rfl) (by simp only [go_sem, hfr, g1, hf, Bool.not_true, htt, hz, hui] <;> rfl) ?_ (fun k hk hX => ?_)
  · trivial
  refine Exec.assocS ?_
  refine Exec.reg ?_
  iterate 2 (refine Run.op (by simp only [go_sem] <;> rfl) (by simp only [go_sem] <;> rfl) ?_)
  iterate 2 (refine Run.op (by simp only [go_sem, hfr, g1, hf, Bool.not_true, htt, hz, hui] <;> rfl) (by simp only [go_sem] <;> rfl) ?_)
  refine Run.nil ?_
  refine Exec.cndS (by simp only [go_sem, hfr, g1, hf, Bool.not_true, htt, hz, hui] <;> rfl) (fun hb71 => ?_) (fun hb71 => ?_)
  · skip
    have hlt := lt_of_dec hb71
    obtain ⟨s, hs⟩ : ∃ s, (fitL fs m)[k]? = some s := ⟨_, List.getElem?_eq_getElem hlt⟩
    have hsm := List.mem_of_getElem? hs
    obtain ⟨q1, q2, q3, q4⟩ := fit_span h0 (s := s) (by rw [e1]; exact hsm)
    have hsb := hfb s hsm
    have g2 : decide (s.lo < 0) = false := decide_eq_false (by omega)
    have g3 : decide (s.lo > s.hi) = false := decide_eq_false (by omega)
    have g4 : decide (s.hi ≥ turnD (fs.length : Int)) = false := decide_eq_false (by omega)
    obtain ⟨tb, htb2⟩ : ∃ x, ((byN : Nat) : Int).tmod (s.hi - s.lo + 1) = x := ⟨_, rfl⟩
    have htbi := tmod_in (a := (byN : Int)) (n := s.hi - s.lo + 1) (by omega) (by omega)
    rw [htb2] at htbi
    have hzz : ¬ s.hi - s.lo + 1 = 0 := by omega
    have f1 := q2 s.lo (by omega) (by omega)
    have f2 := q2 s.hi (by omega) (by omega)
    have f3 := q2 (s.lo + tb) (by omega) (by omega)
    refine Exec.skipS ?_
    refine Exec.blk ?_
    refine Exec.reg ?_
    iterate 2 (refine Run.op (by simp only [go_sem, hfr, g1, hf, Bool.not_true, htt, hz, hui, hs, g2, g3, g4, htb2, hzz, f1, f2, f3] <;> rfl) (by simp only [go_sem] <;> rfl) ?_)
    refine Run.op (by simp only [go_sem, hfr, g1, hf, Bool.not_true, htt, hz, hui, hs, g2, g3, g4, htb2, hzz, f1, f2, f3]; (try simp (disch := omega) only [if_pos]); (try simp only [go_sem, hfr, g1, hf, Bool.not_true, htt, hz, hui, hs, g2, g3, g4, htb2, hzz, f1, f2, f3])<;> rfl) (by simp only [go_sem] <;> rfl) ?_
    iterate 3 (refine Run.op (by simp only [go_sem, hfr, g1, hf, Bool.not_true, htt, hz, hui, hs, g2, g3, g4, htb2, hzz, f1, f2, f3] <;> rfl) (by simp only [go_sem] <;> rfl) ?_)
    refine Run.nil ?_
    refine Exec.assocS ?_
    by_cases hk0 : k = 0
    · skip
      have g5 : decide ((k : Int) > 0) = false := decide_eq_false (by omega)
      refine Exec.opk 34 ?_
      iterate 4 (refine OpenK.op (by simp only [go_sem, hfr, g1, hf, Bool.not_true, htt, hz, hui, hs, g2, g3, g4, htb2, hzz, f1, f2, f3, g5] <;> rfl) (by simp only [go_sem] <;> rfl) (by simp only [go_sem] <;> rfl) ?_)
      iterate 5 (refine OpenK.yes (by simp only [go_sem] <;> rfl) (by simp only [go_sem, hfr, g1, hf, Bool.not_true, htt, hz, hui, hs, g2, g3, g4, htb2, hzz, f1, f2, f3, g5] <;> rfl) (by simp only [go_sem] <;> rfl) (by simp only [go_sem] <;> rfl) ?_)
      iterate 2 (refine OpenK.op (by simp only [go_sem, hfr, g1, hf, Bool.not_true, htt, hz, hui, hs, g2, g3, g4, htb2, hzz, f1, f2, f3, g5] <;> rfl) (by simp only [go_sem] <;> rfl) (by simp only [go_sem] <;> rfl) ?_)
      iterate 4 (refine OpenK.yes (by simp only [go_sem] <;> rfl) (by simp only [go_sem, hfr, g1, hf, Bool.not_true, htt, hz, hui, hs, g2, g3, g4, htb2, hzz, f1, f2, f3, g5] <;> rfl) (by simp only [go_sem] <;> rfl) (by simp only [go_sem] <;> rfl) ?_)
      iterate 2 (refine OpenK.op (by simp only [go_sem, hfr, g1, hf, Bool.not_true, htt, hz, hui, hs, g2, g3, g4, htb2, hzz, f1, f2, f3, g5] <;> rfl) (by simp only [go_sem] <;> rfl) (by simp only [go_sem] <;> rfl) ?_)
      iterate 3 (refine OpenK.yes (by simp only [go_sem] <;> rfl) (by simp only [go_sem, hfr, g1, hf, Bool.not_true, htt, hz, hui, hs, g2, g3, g4, htb2, hzz, f1, f2, f3, g5] <;> rfl) (by simp only [go_sem] <;> rfl) (by simp only [go_sem] <;> rfl) ?_)
      iterate 10 (refine OpenK.skp (by simp only [go_sem] <;> rfl) (by simp only [go_sem] <;> rfl) (by simp only [go_sem] <;> rfl) ?_)
      refine OpenK.yes (by simp only [go_sem] <;> rfl) (by simp only [go_sem, hfr, g1, hf, Bool.not_true, htt, hz, hui, hs, g2, g3, g4, htb2, hzz, f1, f2, f3, g5] <;> rfl) (by simp only [go_sem] <;> rfl) (by simp only [go_sem] <;> rfl) ?_
      refine OpenK.op (by simp only [go_sem, hfr, g1, hf, Bool.not_true, htt, hz, hui, hs, g2, g3, g4, htb2, hzz, f1, f2, f3, g5] <;> rfl) (by simp only [go_sem] <;> rfl) (by simp only [go_sem] <;> rfl) ?_
      refine OpenK.nil (OpenE.finT (by kernel_rfl) (by kernel_rfl) (by kernel_rfl) ?_)
      refine Exec.cndS (by simp only [go_sem, hfr, g1, hf, Bool.not_true, htt, hz, hui, hs, g2, g3, g4, htb2, hzz, f1, f2, f3, g5] <;> rfl) (fun hb109 => ?_) (fun hb109 => ?_)
      · exact absurd hb109 (by simp)
      refine Exec.skipS ?_
      refine Exec.assocS ?_
      refine Exec.opk 34 ?_
      iterate 4 (refine OpenK.op (by simp only [go_sem, hfr, g1, hf, Bool.not_true, htt, hz, hui, hs, g2, g3, g4, htb2, hzz, f1, f2, f3, g5] <;> rfl) (by simp only [go_sem] <;> rfl) (by simp only [go_sem] <;> rfl) ?_)
      refine OpenK.cal (c_meterworksref02_Fits fs s.lo m hl6 hfs (by omega) hm) (by simp only [go_sem]) (by simp only [go_sem, hfr, g1, hf, Bool.not_true, htt, hz, hui, hs, g2, g3, g4, htb2, hzz, f1, f2, f3, g5] <;> rfl) (by exact ⟨by first | exact WkR.pure rfl | exact WkR.nil _ | exact WkR.int (by first | omega | (simp; done) | (simp; omega)), by first | exact WkR.pure rfl | exact WkR.nil _ | exact WkR.int (by first | omega | (simp; done) | (simp; omega)), by first | exact WkR.pure rfl | exact WkR.nil _ | exact WkR.int (by first | omega | (simp; done) | (simp; omega)), trivial⟩) (fr0) (by simp only [go_sem, hfr, g1, hf, Bool.not_true, htt, hz, hui, hs, g2, g3, g4, htb2, hzz, f1, f2, f3, g5] <;> rfl) (by simp only [go_sem] <;> rfl) (by simp only [go_sem] <;> rfl) ?_
      iterate 2 (refine OpenK.op (by simp only [go_sem, hfr, g1, hf, Bool.not_true, htt, hz, hui, hs, g2, g3, g4, htb2, hzz, f1, f2, f3, g5] <;> rfl) (by simp only [go_sem] <;> rfl) (by simp only [go_sem] <;> rfl) ?_)
      iterate 4 (refine OpenK.yes (by simp only [go_sem] <;> rfl) (by simp only [go_sem, hfr, g1, hf, Bool.not_true, htt, hz, hui, hs, g2, g3, g4, htb2, hzz, f1, f2, f3, g5] <;> rfl) (by simp only [go_sem] <;> rfl) (by simp only [go_sem] <;> rfl) ?_)
      refine OpenK.calw (by simp only [go_sem] <;> rfl) (c_meterworksref02_Fits fs s.hi m hl6 hfs (by omega) hm) (by simp only [go_sem]) (by simp only [go_sem, hfr, g1, hf, Bool.not_true, htt, hz, hui, hs, g2, g3, g4, htb2, hzz, f1, f2, f3, g5] <;> rfl) (by simp only [go_sem, hfr, g1, hf, Bool.not_true, htt, hz, hui, hs, g2, g3, g4, htb2, hzz, f1, f2, f3, g5] <;> rfl) (by exact ⟨by first | exact WkR.pure rfl | exact WkR.nil _ | exact WkR.int (by first | omega | (simp; done) | (simp; omega)), by first | exact WkR.pure rfl | exact WkR.nil _ | exact WkR.int (by first | omega | (simp; done) | (simp; omega)), by first | exact WkR.pure rfl | exact WkR.nil _ | exact WkR.int (by first | omega | (simp; done) | (simp; omega)), trivial⟩) (fr0) (by simp only [go_sem, hfr, g1, hf, Bool.not_true, htt, hz, hui, hs, g2, g3, g4, htb2, hzz, f1, f2, f3, g5] <;> rfl) (by simp only [go_sem] <;> rfl) (by simp only [go_sem] <;> rfl) ?_
      refine OpenK.yes (by simp only [go_sem] <;> rfl) (by simp only [go_sem, hfr, g1, hf, Bool.not_true, htt, hz, hui, hs, g2, g3, g4, htb2, hzz, f1, f2, f3, g5] <;> rfl) (by simp only [go_sem] <;> rfl) (by simp only [go_sem] <;> rfl) ?_
      iterate 2 (refine OpenK.op (by simp only [go_sem, hfr, g1, hf, Bool.not_true, htt, hz, hui, hs, g2, g3, g4, htb2, hzz, f1, f2, f3, g5] <;> rfl) (by simp only [go_sem] <;> rfl) (by simp only [go_sem] <;> rfl) ?_)
      iterate 4 (refine OpenK.yes (by simp only [go_sem] <;> rfl) (by simp only [go_sem, hfr, g1, hf, Bool.not_true, htt, hz, hui, hs, g2, g3, g4, htb2, hzz, f1, f2, f3, g5] <;> rfl) (by simp only [go_sem] <;> rfl) (by simp only [go_sem] <;> rfl) ?_)
      refine OpenK.yes (by simp only [go_sem] <;> rfl) (by simp only [go_sem, hfr, g1, hf, Bool.not_true, htt, hz, hui, hs, g2, g3, g4, htb2, hzz, f1, f2, f3, g5]; (try simp (disch := omega) only [IntWalk.i64_in, IntWalk.u64_in, if_neg, if_pos])<;> rfl) (by simp only [go_sem] <;> rfl) (by simp only [go_sem] <;> rfl) ?_
      iterate 4 (refine OpenK.yes (by simp only [go_sem] <;> rfl) (by simp only [go_sem, hfr, g1, hf, Bool.not_true, htt, hz, hui, hs, g2, g3, g4, htb2, hzz, f1, f2, f3, g5] <;> rfl) (by simp only [go_sem] <;> rfl) (by simp only [go_sem] <;> rfl) ?_)
      iterate 4 (refine OpenK.yes (by simp only [go_sem] <;> rfl) (by simp only [go_sem, hfr, g1, hf, Bool.not_true, htt, hz, hui, hs, g2, g3, g4, htb2, hzz, f1, f2, f3, g5]; (try simp (disch := omega) only [IntWalk.i64_in, IntWalk.u64_in, if_neg, if_pos])<;> rfl) (by simp only [go_sem] <;> rfl) (by simp only [go_sem] <;> rfl) ?_)
      refine OpenK.yes (by simp only [go_sem] <;> rfl) (by simp only [go_sem, hfr, g1, hf, Bool.not_true, htt, hz, hui, hs, g2, g3, g4, htb2, hzz, f1, f2, f3, g5] <;> rfl) (by simp only [go_sem] <;> rfl) (by simp only [go_sem] <;> rfl) ?_
      refine OpenK.calw (by simp only [go_sem] <;> rfl) (c_meterworksref02_Fits fs (s.lo + tb) m hl6 hfs (by omega) hm) (by simp only [go_sem]) (by simp only [go_sem, hfr, g1, hf, Bool.not_true, htt, hz, hui, hs, g2, g3, g4, htb2, hzz, f1, f2, f3, g5] <;> rfl) (by simp only [go_sem, hfr, g1, hf, Bool.not_true, htt, hz, hui, hs, g2, g3, g4, htb2, hzz, f1, f2, f3, g5] <;> rfl) (by exact ⟨by first | exact WkR.pure rfl | exact WkR.nil _ | exact WkR.int (by first | omega | (simp; done) | (simp; omega)), by first | exact WkR.pure rfl | exact WkR.nil _ | exact WkR.int (by first | omega | (simp; done) | (simp; omega)), by first | exact WkR.pure rfl | exact WkR.nil _ | exact WkR.int (by first | omega | (simp; done) | (simp; omega)), trivial⟩) (fr0) (by simp only [go_sem, hfr, g1, hf, Bool.not_true, htt, hz, hui, hs, g2, g3, g4, htb2, hzz, f1, f2, f3, g5] <;> rfl) (by simp only [go_sem] <;> rfl) (by simp only [go_sem] <;> rfl) ?_
      refine OpenK.yes (by simp only [go_sem] <;> rfl) (by simp only [go_sem, hfr, g1, hf, Bool.not_true, htt, hz, hui, hs, g2, g3, g4, htb2, hzz, f1, f2, f3, g5] <;> rfl) (by simp only [go_sem] <;> rfl) (by simp only [go_sem] <;> rfl) ?_
      refine OpenK.op (by simp only [go_sem, hfr, g1, hf, Bool.not_true, htt, hz, hui, hs, g2, g3, g4, htb2, hzz, f1, f2, f3, g5] <;> rfl) (by simp only [go_sem] <;> rfl) (by simp only [go_sem] <;> rfl) ?_
      refine OpenK.nil (OpenE.finT (by kernel_rfl) (by kernel_rfl) (by kernel_rfl) ?_)
      refine Exec.cndS (by simp only [go_sem, hfr, g1, hf, Bool.not_true, htt, hz, hui, hs, g2, g3, g4, htb2, hzz, f1, f2, f3, g5] <;> rfl) (fun hb141 => ?_) (fun hb141 => ?_)
      · exact absurd hb141 (by simp)
      refine Exec.skipS ?_
      by_cases hlo : 0 < s.lo
      · skip
        have g7 : decide (s.lo > 0) = true := decide_eq_true hlo
        have f4 := q3 hlo
        by_cases hhi : s.hi + 1 < turnD (fs.length : Int)
        · skip
          have g8 : decide (s.hi + 1 < turnD (fs.length : Int)) = true := decide_eq_true hhi
          have f5 := q4 hhi
          refine Exec.reg ?_
          iterate 4 (refine Run.op (by simp only [go_sem, hfr, g1, hf, Bool.not_true, htt, hz, hui, hs, g2, g3, g4, htb2, hzz, f1, f2, f3, g5, g7, f4, g8, f5] <;> rfl) (by simp only [go_sem] <;> rfl) ?_)
          iterate 3 (refine Run.yes (by simp only [go_sem] <;> rfl) (by simp only [go_sem, hfr, g1, hf, Bool.not_true, htt, hz, hui, hs, g2, g3, g4, htb2, hzz, f1, f2, f3, g5, g7, f4, g8, f5] <;> rfl) (by simp only [go_sem] <;> rfl) ?_)
          refine Run.yes (by simp only [go_sem] <;> rfl) (by simp only [go_sem, hfr, g1, hf, Bool.not_true, htt, hz, hui, hs, g2, g3, g4, htb2, hzz, f1, f2, f3, g5, g7, f4, g8, f5]; (try simp (disch := omega) only [IntWalk.i64_in, IntWalk.u64_in, if_neg, if_pos])<;> rfl) (by simp only [go_sem] <;> rfl) ?_
          refine Run.yes (by simp only [go_sem] <;> rfl) (by simp only [go_sem, hfr, g1, hf, Bool.not_true, htt, hz, hui, hs, g2, g3, g4, htb2, hzz, f1, f2, f3, g5, g7, f4, g8, f5] <;> rfl) (by simp only [go_sem] <;> rfl) ?_
          refine Run.calw (by simp only [go_sem] <;> rfl) (c_meterworksref02_Fits fs (s.lo - 1) m hl6 hfs (by omega) hm) (by simp only [go_sem]) (by simp only [go_sem, hfr, g1, hf, Bool.not_true, htt, hz, hui, hs, g2, g3, g4, htb2, hzz, f1, f2, f3, g5, g7, f4, g8, f5] <;> rfl) (by simp only [go_sem, hfr, g1, hf, Bool.not_true, htt, hz, hui, hs, g2, g3, g4, htb2, hzz, f1, f2, f3, g5, g7, f4, g8, f5] <;> rfl) (by exact ⟨by first | exact WkR.pure rfl | exact WkR.nil _ | exact WkR.int (by first | omega | (simp; done) | (simp; omega)), by first | exact WkR.pure rfl | exact WkR.nil _ | exact WkR.int (by first | omega | (simp; done) | (simp; omega)), by first | exact WkR.pure rfl | exact WkR.nil _ | exact WkR.int (by first | omega | (simp; done) | (simp; omega)), trivial⟩) (fr0) (by simp only [go_sem, hfr, g1, hf, Bool.not_true, htt, hz, hui, hs, g2, g3, g4, htb2, hzz, f1, f2, f3, g5, g7, f4, g8, f5] <;> rfl) ?_
          iterate 2 (refine Run.op (by simp only [go_sem, hfr, g1, hf, Bool.not_true, htt, hz, hui, hs, g2, g3, g4, htb2, hzz, f1, f2, f3, g5, g7, f4, g8, f5] <;> rfl) (by simp only [go_sem] <;> rfl) ?_)
          iterate 2 (refine Run.yes (by simp only [go_sem] <;> rfl) (by simp only [go_sem, hfr, g1, hf, Bool.not_true, htt, hz, hui, hs, g2, g3, g4, htb2, hzz, f1, f2, f3, g5, g7, f4, g8, f5] <;> rfl) (by simp only [go_sem] <;> rfl) ?_)
          refine Run.yes (by simp only [go_sem] <;> rfl) (by simp only [go_sem, hfr, g1, hf, Bool.not_true, htt, hz, hui, hs, g2, g3, g4, htb2, hzz, f1, f2, f3, g5, g7, f4, g8, f5]; (try simp (disch := omega) only [IntWalk.i64_in, IntWalk.u64_in, if_neg, if_pos])<;> rfl) (by simp only [go_sem] <;> rfl) ?_
          iterate 6 (refine Run.yes (by simp only [go_sem] <;> rfl) (by simp only [go_sem, hfr, g1, hf, Bool.not_true, htt, hz, hui, hs, g2, g3, g4, htb2, hzz, f1, f2, f3, g5, g7, f4, g8, f5] <;> rfl) (by simp only [go_sem] <;> rfl) ?_)
          refine Run.yes (by simp only [go_sem] <;> rfl) (by simp only [go_sem, hfr, g1, hf, Bool.not_true, htt, hz, hui, hs, g2, g3, g4, htb2, hzz, f1, f2, f3, g5, g7, f4, g8, f5]; (try simp (disch := omega) only [IntWalk.i64_in, IntWalk.u64_in, if_neg, if_pos])<;> rfl) (by simp only [go_sem] <;> rfl) ?_
          refine Run.yes (by simp only [go_sem] <;> rfl) (by simp only [go_sem, hfr, g1, hf, Bool.not_true, htt, hz, hui, hs, g2, g3, g4, htb2, hzz, f1, f2, f3, g5, g7, f4, g8, f5] <;> rfl) (by simp only [go_sem] <;> rfl) ?_
          refine Run.calw (by simp only [go_sem] <;> rfl) (c_meterworksref02_Fits fs (s.hi + 1) m hl6 hfs (by omega) hm) (by simp only [go_sem]) (by simp only [go_sem, hfr, g1, hf, Bool.not_true, htt, hz, hui, hs, g2, g3, g4, htb2, hzz, f1, f2, f3, g5, g7, f4, g8, f5] <;> rfl) (by simp only [go_sem, hfr, g1, hf, Bool.not_true, htt, hz, hui, hs, g2, g3, g4, htb2, hzz, f1, f2, f3, g5, g7, f4, g8, f5] <;> rfl) (by exact ⟨by first | exact WkR.pure rfl | exact WkR.nil _ | exact WkR.int (by first | omega | (simp; done) | (simp; omega)), by first | exact WkR.pure rfl | exact WkR.nil _ | exact WkR.int (by first | omega | (simp; done) | (simp; omega)), by first | exact WkR.pure rfl | exact WkR.nil _ | exact WkR.int (by first | omega | (simp; done) | (simp; omega)), trivial⟩) (fr0) (by simp only [go_sem, hfr, g1, hf, Bool.not_true, htt, hz, hui, hs, g2, g3, g4, htb2, hzz, f1, f2, f3, g5, g7, f4, g8, f5] <;> rfl) ?_
          refine Run.yes (by simp only [go_sem] <;> rfl) (by simp only [go_sem, hfr, g1, hf, Bool.not_true, htt, hz, hui, hs, g2, g3, g4, htb2, hzz, f1, f2, f3, g5, g7, f4, g8, f5] <;> rfl) (by simp only [go_sem] <;> rfl) ?_
          refine Run.op (by simp only [go_sem, hfr, g1, hf, Bool.not_true, htt, hz, hui, hs, g2, g3, g4, htb2, hzz, f1, f2, f3, g5, g7, f4, g8, f5] <;> rfl) (by simp only [go_sem] <;> rfl) ?_
          refine Run.nil ?_
          refine Exec.cnd (by simp only [go_sem, hfr, g1, hf, Bool.not_true, htt, hz, hui, hs, g2, g3, g4, htb2, hzz, f1, f2, f3, g5, g7, f4, g8, f5] <;> rfl) (fun hb167 => ?_) (fun hb167 => ?_)
          · exact absurd hb167 (by simp)
          refine BlkK.nrm ?_
          refine Exec.reg1 ?_
          refine Run.op (by simp only [go_sem] <;> rfl) (by simp only [go_sem] <;> rfl) ?_
          refine Run.op (by simp only [go_sem, hfr, g1, hf, Bool.not_true, htt, hz, hui, hs, g2, g3, g4, htb2, hzz, f1, f2, f3, g5, g7, f4, g8, f5]; (try simp (disch := omega) only [IntWalk.i64_in, IntWalk.u64_in, if_neg, if_pos])<;> rfl) (by simp only [go_sem] <;> rfl) ?_
          refine Run.op (by simp only [go_sem] <;> rfl) (by simp only [go_sem] <;> rfl) ?_
          refine Run.nil ?_
          refine ForK.nxt ?_ ?_ ?_
          · omega
          · exact Ghost.kp [0, 1, 2, 3, 9, 12, 13] [] (by simp only [go_sem, hfr, g1, hf, Bool.not_true, htt, hz, hui, hs, g2, g3, g4, htb2, hzz, f1, f2, f3, g5, g7, f4, g8, f5]; first | ((repeat' (first | with_reducible_and_instances rfl | refine st_eq ?_ ?_ ?_ | refine ret_eq ?_ | refine tup_eq ?_ | refine tm_eq ?_ ?_ | refine arr_eq ?_ | refine cells_eq ?_ | refine val_eq ?_ | refine ls_eq ?_ ?_ | refine own_eq ?_ ?_ | refine sl_eq ?_ | refine b_eq ?_ | (refine i_eq ?_; omega))); done) | rfl)
          · trivial
        have g8 : decide (s.hi + 1 < turnD (fs.length : Int)) = false := decide_eq_false hhi
        refine Exec.reg ?_
        iterate 4 (refine Run.op (by simp only [go_sem, hfr, g1, hf, Bool.not_true, htt, hz, hui, hs, g2, g3, g4, htb2, hzz, f1, f2, f3, g5, g7, f4, g8] <;> rfl) (by simp only [go_sem] <;> rfl) ?_)
        iterate 3 (refine Run.yes (by simp only [go_sem] <;> rfl) (by simp only [go_sem, hfr, g1, hf, Bool.not_true, htt, hz, hui, hs, g2, g3, g4, htb2, hzz, f1, f2, f3, g5, g7, f4, g8] <;> rfl) (by simp only [go_sem] <;> rfl) ?_)
        refine Run.yes (by simp only [go_sem] <;> rfl) (by simp only [go_sem, hfr, g1, hf, Bool.not_true, htt, hz, hui, hs, g2, g3, g4, htb2, hzz, f1, f2, f3, g5, g7, f4, g8]; (try simp (disch := omega) only [IntWalk.i64_in, IntWalk.u64_in, if_neg, if_pos])<;> rfl) (by simp only [go_sem] <;> rfl) ?_
        refine Run.yes (by simp only [go_sem] <;> rfl) (by simp only [go_sem, hfr, g1, hf, Bool.not_true, htt, hz, hui, hs, g2, g3, g4, htb2, hzz, f1, f2, f3, g5, g7, f4, g8] <;> rfl) (by simp only [go_sem] <;> rfl) ?_
        refine Run.calw (by simp only [go_sem] <;> rfl) (c_meterworksref02_Fits fs (s.lo - 1) m hl6 hfs (by omega) hm) (by simp only [go_sem]) (by simp only [go_sem, hfr, g1, hf, Bool.not_true, htt, hz, hui, hs, g2, g3, g4, htb2, hzz, f1, f2, f3, g5, g7, f4, g8] <;> rfl) (by simp only [go_sem, hfr, g1, hf, Bool.not_true, htt, hz, hui, hs, g2, g3, g4, htb2, hzz, f1, f2, f3, g5, g7, f4, g8] <;> rfl) (by exact ⟨by first | exact WkR.pure rfl | exact WkR.nil _ | exact WkR.int (by first | omega | (simp; done) | (simp; omega)), by first | exact WkR.pure rfl | exact WkR.nil _ | exact WkR.int (by first | omega | (simp; done) | (simp; omega)), by first | exact WkR.pure rfl | exact WkR.nil _ | exact WkR.int (by first | omega | (simp; done) | (simp; omega)), trivial⟩) (fr0) (by simp only [go_sem, hfr, g1, hf, Bool.not_true, htt, hz, hui, hs, g2, g3, g4, htb2, hzz, f1, f2, f3, g5, g7, f4, g8] <;> rfl) ?_
        iterate 2 (refine Run.op (by simp only [go_sem, hfr, g1, hf, Bool.not_true, htt, hz, hui, hs, g2, g3, g4, htb2, hzz, f1, f2, f3, g5, g7, f4, g8] <;> rfl) (by simp only [go_sem] <;> rfl) ?_)
        iterate 2 (refine Run.yes (by simp only [go_sem] <;> rfl) (by simp only [go_sem, hfr, g1, hf, Bool.not_true, htt, hz, hui, hs, g2, g3, g4, htb2, hzz, f1, f2, f3, g5, g7, f4, g8] <;> rfl) (by simp only [go_sem] <;> rfl) ?_)
        refine Run.yes (by simp only [go_sem] <;> rfl) (by simp only [go_sem, hfr, g1, hf, Bool.not_true, htt, hz, hui, hs, g2, g3, g4, htb2, hzz, f1, f2, f3, g5, g7, f4, g8]; (try simp (disch := omega) only [IntWalk.i64_in, IntWalk.u64_in, if_neg, if_pos])<;> rfl) (by simp only [go_sem] <;> rfl) ?_
        iterate 3 (refine Run.yes (by simp only [go_sem] <;> rfl) (by simp only [go_sem, hfr, g1, hf, Bool.not_true, htt, hz, hui, hs, g2, g3, g4, htb2, hzz, f1, f2, f3, g5, g7, f4, g8] <;> rfl) (by simp only [go_sem] <;> rfl) ?_)
        iterate 6 (refine Run.skp (by simp only [go_sem] <;> rfl) (by simp only [go_sem] <;> rfl) ?_)
        refine Run.yes (by simp only [go_sem] <;> rfl) (by simp only [go_sem, hfr, g1, hf, Bool.not_true, htt, hz, hui, hs, g2, g3, g4, htb2, hzz, f1, f2, f3, g5, g7, f4, g8] <;> rfl) (by simp only [go_sem] <;> rfl) ?_
        refine Run.op (by simp only [go_sem, hfr, g1, hf, Bool.not_true, htt, hz, hui, hs, g2, g3, g4, htb2, hzz, f1, f2, f3, g5, g7, f4, g8] <;> rfl) (by simp only [go_sem] <;> rfl) ?_
        refine Run.nil ?_
        refine Exec.cnd (by simp only [go_sem, hfr, g1, hf, Bool.not_true, htt, hz, hui, hs, g2, g3, g4, htb2, hzz, f1, f2, f3, g5, g7, f4, g8] <;> rfl) (fun hb167 => ?_) (fun hb167 => ?_)
        · exact absurd hb167 (by simp)
        refine BlkK.nrm ?_
        refine Exec.reg1 ?_
        refine Run.op (by simp only [go_sem] <;> rfl) (by simp only [go_sem] <;> rfl) ?_
        refine Run.op (by simp only [go_sem, hfr, g1, hf, Bool.not_true, htt, hz, hui, hs, g2, g3, g4, htb2, hzz, f1, f2, f3, g5, g7, f4, g8]; (try simp (disch := omega) only [IntWalk.i64_in, IntWalk.u64_in, if_neg, if_pos])<;> rfl) (by simp only [go_sem] <;> rfl) ?_
        refine Run.op (by simp only [go_sem] <;> rfl) (by simp only [go_sem] <;> rfl) ?_
        refine Run.nil ?_
        refine ForK.nxt ?_ ?_ ?_
        · omega
        · exact Ghost.kp [0, 1, 2, 3, 9, 12, 13] [] (by simp only [go_sem, hfr, g1, hf, Bool.not_true, htt, hz, hui, hs, g2, g3, g4, htb2, hzz, f1, f2, f3, g5, g7, f4, g8]; first | ((repeat' (first | with_reducible_and_instances rfl | refine st_eq ?_ ?_ ?_ | refine ret_eq ?_ | refine tup_eq ?_ | refine tm_eq ?_ ?_ | refine arr_eq ?_ | refine cells_eq ?_ | refine val_eq ?_ | refine ls_eq ?_ ?_ | refine own_eq ?_ ?_ | refine sl_eq ?_ | refine b_eq ?_ | (refine i_eq ?_; omega))); done) | rfl)
        · trivial
      have g7 : decide (s.lo > 0) = false := decide_eq_false hlo
      by_cases hhi : s.hi + 1 < turnD (fs.length : Int)
      · skip
        have g8 : decide (s.hi + 1 < turnD (fs.length : Int)) = true := decide_eq_true hhi
        have f5 := q4 hhi
        refine Exec.reg ?_
        iterate 4 (refine Run.op (by simp only [go_sem, hfr, g1, hf, Bool.not_true, htt, hz, hui, hs, g2, g3, g4, htb2, hzz, f1, f2, f3, g5, g7, g8, f5] <;> rfl) (by simp only [go_sem] <;> rfl) ?_)
        iterate 6 (refine Run.skp (by simp only [go_sem] <;> rfl) (by simp only [go_sem] <;> rfl) ?_)
        iterate 2 (refine Run.op (by simp only [go_sem, hfr, g1, hf, Bool.not_true, htt, hz, hui, hs, g2, g3, g4, htb2, hzz, f1, f2, f3, g5, g7, g8, f5] <;> rfl) (by simp only [go_sem] <;> rfl) ?_)
        iterate 2 (refine Run.yes (by simp only [go_sem] <;> rfl) (by simp only [go_sem, hfr, g1, hf, Bool.not_true, htt, hz, hui, hs, g2, g3, g4, htb2, hzz, f1, f2, f3, g5, g7, g8, f5] <;> rfl) (by simp only [go_sem] <;> rfl) ?_)
        refine Run.yes (by simp only [go_sem] <;> rfl) (by simp only [go_sem, hfr, g1, hf, Bool.not_true, htt, hz, hui, hs, g2, g3, g4, htb2, hzz, f1, f2, f3, g5, g7, g8, f5]; (try simp (disch := omega) only [IntWalk.i64_in, IntWalk.u64_in, if_neg, if_pos])<;> rfl) (by simp only [go_sem] <;> rfl) ?_
        iterate 6 (refine Run.yes (by simp only [go_sem] <;> rfl) (by simp only [go_sem, hfr, g1, hf, Bool.not_true, htt, hz, hui, hs, g2, g3, g4, htb2, hzz, f1, f2, f3, g5, g7, g8, f5] <;> rfl) (by simp only [go_sem] <;> rfl) ?_)
        refine Run.yes (by simp only [go_sem] <;> rfl) (by simp only [go_sem, hfr, g1, hf, Bool.not_true, htt, hz, hui, hs, g2, g3, g4, htb2, hzz, f1, f2, f3, g5, g7, g8, f5]; (try simp (disch := omega) only [IntWalk.i64_in, IntWalk.u64_in, if_neg, if_pos])<;> rfl) (by simp only [go_sem] <;> rfl) ?_
        refine Run.yes (by simp only [go_sem] <;> rfl) (by simp only [go_sem, hfr, g1, hf, Bool.not_true, htt, hz, hui, hs, g2, g3, g4, htb2, hzz, f1, f2, f3, g5, g7, g8, f5] <;> rfl) (by simp only [go_sem] <;> rfl) ?_
        refine Run.calw (by simp only [go_sem] <;> rfl) (c_meterworksref02_Fits fs (s.hi + 1) m hl6 hfs (by omega) hm) (by simp only [go_sem]) (by simp only [go_sem, hfr, g1, hf, Bool.not_true, htt, hz, hui, hs, g2, g3, g4, htb2, hzz, f1, f2, f3, g5, g7, g8, f5] <;> rfl) (by simp only [go_sem, hfr, g1, hf, Bool.not_true, htt, hz, hui, hs, g2, g3, g4, htb2, hzz, f1, f2, f3, g5, g7, g8, f5] <;> rfl) (by exact ⟨by first | exact WkR.pure rfl | exact WkR.nil _ | exact WkR.int (by first | omega | (simp; done) | (simp; omega)), by first | exact WkR.pure rfl | exact WkR.nil _ | exact WkR.int (by first | omega | (simp; done) | (simp; omega)), by first | exact WkR.pure rfl | exact WkR.nil _ | exact WkR.int (by first | omega | (simp; done) | (simp; omega)), trivial⟩) (fr0) (by simp only [go_sem, hfr, g1, hf, Bool.not_true, htt, hz, hui, hs, g2, g3, g4, htb2, hzz, f1, f2, f3, g5, g7, g8, f5] <;> rfl) ?_
        refine Run.yes (by simp only [go_sem] <;> rfl) (by simp only [go_sem, hfr, g1, hf, Bool.not_true, htt, hz, hui, hs, g2, g3, g4, htb2, hzz, f1, f2, f3, g5, g7, g8, f5] <;> rfl) (by simp only [go_sem] <;> rfl) ?_
        refine Run.op (by simp only [go_sem, hfr, g1, hf, Bool.not_true, htt, hz, hui, hs, g2, g3, g4, htb2, hzz, f1, f2, f3, g5, g7, g8, f5] <;> rfl) (by simp only [go_sem] <;> rfl) ?_
        refine Run.nil ?_
        refine Exec.cnd (by simp only [go_sem, hfr, g1, hf, Bool.not_true, htt, hz, hui, hs, g2, g3, g4, htb2, hzz, f1, f2, f3, g5, g7, g8, f5] <;> rfl) (fun hb167 => ?_) (fun hb167 => ?_)
        · exact absurd hb167 (by simp)
        refine BlkK.nrm ?_
        refine Exec.reg1 ?_
        refine Run.op (by simp only [go_sem] <;> rfl) (by simp only [go_sem] <;> rfl) ?_
        refine Run.op (by simp only [go_sem, hfr, g1, hf, Bool.not_true, htt, hz, hui, hs, g2, g3, g4, htb2, hzz, f1, f2, f3, g5, g7, g8, f5]; (try simp (disch := omega) only [IntWalk.i64_in, IntWalk.u64_in, if_neg, if_pos])<;> rfl) (by simp only [go_sem] <;> rfl) ?_
        refine Run.op (by simp only [go_sem] <;> rfl) (by simp only [go_sem] <;> rfl) ?_
        refine Run.nil ?_
        refine ForK.nxt ?_ ?_ ?_
        · omega
        · exact Ghost.kp [0, 1, 2, 3, 9, 12, 13] [] (by simp only [go_sem, hfr, g1, hf, Bool.not_true, htt, hz, hui, hs, g2, g3, g4, htb2, hzz, f1, f2, f3, g5, g7, g8, f5]; first | ((repeat' (first | with_reducible_and_instances rfl | refine st_eq ?_ ?_ ?_ | refine ret_eq ?_ | refine tup_eq ?_ | refine tm_eq ?_ ?_ | refine arr_eq ?_ | refine cells_eq ?_ | refine val_eq ?_ | refine ls_eq ?_ ?_ | refine own_eq ?_ ?_ | refine sl_eq ?_ | refine b_eq ?_ | (refine i_eq ?_; omega))); done) | rfl)
        · trivial
      have g8 : decide (s.hi + 1 < turnD (fs.length : Int)) = false := decide_eq_false hhi
      refine Exec.reg ?_
      iterate 4 (refine Run.op (by simp only [go_sem, hfr, g1, hf, Bool.not_true, htt, hz, hui, hs, g2, g3, g4, htb2, hzz, f1, f2, f3, g5, g7, g8] <;> rfl) (by simp only [go_sem] <;> rfl) ?_)
      iterate 6 (refine Run.skp (by simp only [go_sem] <;> rfl) (by simp only [go_sem] <;> rfl) ?_)
      iterate 2 (refine Run.op (by simp only [go_sem, hfr, g1, hf, Bool.not_true, htt, hz, hui, hs, g2, g3, g4, htb2, hzz, f1, f2, f3, g5, g7, g8] <;> rfl) (by simp only [go_sem] <;> rfl) ?_)
      iterate 2 (refine Run.yes (by simp only [go_sem] <;> rfl) (by simp only [go_sem, hfr, g1, hf, Bool.not_true, htt, hz, hui, hs, g2, g3, g4, htb2, hzz, f1, f2, f3, g5, g7, g8] <;> rfl) (by simp only [go_sem] <;> rfl) ?_)
      refine Run.yes (by simp only [go_sem] <;> rfl) (by simp only [go_sem, hfr, g1, hf, Bool.not_true, htt, hz, hui, hs, g2, g3, g4, htb2, hzz, f1, f2, f3, g5, g7, g8]; (try simp (disch := omega) only [IntWalk.i64_in, IntWalk.u64_in, if_neg, if_pos])<;> rfl) (by simp only [go_sem] <;> rfl) ?_
      iterate 3 (refine Run.yes (by simp only [go_sem] <;> rfl) (by simp only [go_sem, hfr, g1, hf, Bool.not_true, htt, hz, hui, hs, g2, g3, g4, htb2, hzz, f1, f2, f3, g5, g7, g8] <;> rfl) (by simp only [go_sem] <;> rfl) ?_)
      iterate 6 (refine Run.skp (by simp only [go_sem] <;> rfl) (by simp only [go_sem] <;> rfl) ?_)
      refine Run.yes (by simp only [go_sem] <;> rfl) (by simp only [go_sem, hfr, g1, hf, Bool.not_true, htt, hz, hui, hs, g2, g3, g4, htb2, hzz, f1, f2, f3, g5, g7, g8] <;> rfl) (by simp only [go_sem] <;> rfl) ?_
      refine Run.op (by simp only [go_sem, hfr, g1, hf, Bool.not_true, htt, hz, hui, hs, g2, g3, g4, htb2, hzz, f1, f2, f3, g5, g7, g8] <;> rfl) (by simp only [go_sem] <;> rfl) ?_
      refine Run.nil ?_
      refine Exec.cnd (by simp only [go_sem, hfr, g1, hf, Bool.not_true, htt, hz, hui, hs, g2, g3, g4, htb2, hzz, f1, f2, f3, g5, g7, g8] <;> rfl) (fun hb167 => ?_) (fun hb167 => ?_)
      · exact absurd hb167 (by simp)
      refine BlkK.nrm ?_
      refine Exec.reg1 ?_
      refine Run.op (by simp only [go_sem] <;> rfl) (by simp only [go_sem] <;> rfl) ?_
      refine Run.op (by simp only [go_sem, hfr, g1, hf, Bool.not_true, htt, hz, hui, hs, g2, g3, g4, htb2, hzz, f1, f2, f3, g5, g7, g8]; (try simp (disch := omega) only [IntWalk.i64_in, IntWalk.u64_in, if_neg, if_pos])<;> rfl) (by simp only [go_sem] <;> rfl) ?_
      refine Run.op (by simp only [go_sem] <;> rfl) (by simp only [go_sem] <;> rfl) ?_
      refine Run.nil ?_
      refine ForK.nxt ?_ ?_ ?_
      · omega
      · exact Ghost.kp [0, 1, 2, 3, 9, 12, 13] [] (by simp only [go_sem, hfr, g1, hf, Bool.not_true, htt, hz, hui, hs, g2, g3, g4, htb2, hzz, f1, f2, f3, g5, g7, g8]; first | ((repeat' (first | with_reducible_and_instances rfl | refine st_eq ?_ ?_ ?_ | refine ret_eq ?_ | refine tup_eq ?_ | refine tm_eq ?_ ?_ | refine arr_eq ?_ | refine cells_eq ?_ | refine val_eq ?_ | refine ls_eq ?_ ?_ | refine own_eq ?_ ?_ | refine sl_eq ?_ | refine b_eq ?_ | (refine i_eq ?_; omega))); done) | rfl)
      · trivial
    have g5 : decide ((k : Int) > 0) = true := decide_eq_true (by omega)
    obtain ⟨y, hy⟩ : ∃ y, (fitL fs m)[k - 1]? = some y := ⟨_, List.getElem?_eq_getElem (by omega)⟩
    have hyb := hfb y (List.mem_of_getElem? hy)
    have hgg := fit_gap h0 (i := k - 1) (a := y) (b := s) (by rw [e1]; exact hy) (by rw [e1, show k - 1 + 1 = k by omega]; exact hs)
    have t1 : ((k : Int) - 1).toNat = k - 1 := by omega
    have g6 : decide (s.lo ≤ y.hi + 1) = false := decide_eq_false (by omega)
    refine Exec.opk 34 ?_
    iterate 4 (refine OpenK.op (by simp only [go_sem, hfr, g1, hf, Bool.not_true, htt, hz, hui, hs, g2, g3, g4, htb2, hzz, f1, f2, f3, g5, hy, t1, g6] <;> rfl) (by simp only [go_sem] <;> rfl) (by simp only [go_sem] <;> rfl) ?_)
    iterate 5 (refine OpenK.yes (by simp only [go_sem] <;> rfl) (by simp only [go_sem, hfr, g1, hf, Bool.not_true, htt, hz, hui, hs, g2, g3, g4, htb2, hzz, f1, f2, f3, g5, hy, t1, g6] <;> rfl) (by simp only [go_sem] <;> rfl) (by simp only [go_sem] <;> rfl) ?_)
    iterate 2 (refine OpenK.op (by simp only [go_sem, hfr, g1, hf, Bool.not_true, htt, hz, hui, hs, g2, g3, g4, htb2, hzz, f1, f2, f3, g5, hy, t1, g6] <;> rfl) (by simp only [go_sem] <;> rfl) (by simp only [go_sem] <;> rfl) ?_)
    iterate 4 (refine OpenK.yes (by simp only [go_sem] <;> rfl) (by simp only [go_sem, hfr, g1, hf, Bool.not_true, htt, hz, hui, hs, g2, g3, g4, htb2, hzz, f1, f2, f3, g5, hy, t1, g6] <;> rfl) (by simp only [go_sem] <;> rfl) (by simp only [go_sem] <;> rfl) ?_)
    iterate 2 (refine OpenK.op (by simp only [go_sem, hfr, g1, hf, Bool.not_true, htt, hz, hui, hs, g2, g3, g4, htb2, hzz, f1, f2, f3, g5, hy, t1, g6] <;> rfl) (by simp only [go_sem] <;> rfl) (by simp only [go_sem] <;> rfl) ?_)
    iterate 7 (refine OpenK.yes (by simp only [go_sem] <;> rfl) (by simp only [go_sem, hfr, g1, hf, Bool.not_true, htt, hz, hui, hs, g2, g3, g4, htb2, hzz, f1, f2, f3, g5, hy, t1, g6] <;> rfl) (by simp only [go_sem] <;> rfl) (by simp only [go_sem] <;> rfl) ?_)
    refine OpenK.yes (by simp only [go_sem] <;> rfl) (by simp only [go_sem, hfr, g1, hf, Bool.not_true, htt, hz, hui, hs, g2, g3, g4, htb2, hzz, f1, f2, f3, g5, hy, t1, g6]; (try simp (disch := omega) only [IntWalk.i64_in, IntWalk.u64_in, if_neg, if_pos])<;> rfl) (by simp only [go_sem] <;> rfl) (by simp only [go_sem] <;> rfl) ?_
    refine OpenK.yes (by simp only [go_sem] <;> rfl) (by simp only [go_sem, hfr, g1, hf, Bool.not_true, htt, hz, hui, hs, g2, g3, g4, htb2, hzz, f1, f2, f3, g5, hy, t1, g6]; (try simp (disch := omega) only [if_pos]); (try simp only [go_sem, hfr, g1, hf, Bool.not_true, htt, hz, hui, hs, g2, g3, g4, htb2, hzz, f1, f2, f3, g5, hy, t1, g6])<;> rfl) (by simp only [go_sem] <;> rfl) (by simp only [go_sem] <;> rfl) ?_
    iterate 2 (refine OpenK.yes (by simp only [go_sem] <;> rfl) (by simp only [go_sem, hfr, g1, hf, Bool.not_true, htt, hz, hui, hs, g2, g3, g4, htb2, hzz, f1, f2, f3, g5, hy, t1, g6] <;> rfl) (by simp only [go_sem] <;> rfl) (by simp only [go_sem] <;> rfl) ?_)
    refine OpenK.yes (by simp only [go_sem] <;> rfl) (by simp only [go_sem, hfr, g1, hf, Bool.not_true, htt, hz, hui, hs, g2, g3, g4, htb2, hzz, f1, f2, f3, g5, hy, t1, g6]; (try simp (disch := omega) only [IntWalk.i64_in, IntWalk.u64_in, if_neg, if_pos])<;> rfl) (by simp only [go_sem] <;> rfl) (by simp only [go_sem] <;> rfl) ?_
    iterate 2 (refine OpenK.yes (by simp only [go_sem] <;> rfl) (by simp only [go_sem, hfr, g1, hf, Bool.not_true, htt, hz, hui, hs, g2, g3, g4, htb2, hzz, f1, f2, f3, g5, hy, t1, g6] <;> rfl) (by simp only [go_sem] <;> rfl) (by simp only [go_sem] <;> rfl) ?_)
    refine OpenK.op (by simp only [go_sem, hfr, g1, hf, Bool.not_true, htt, hz, hui, hs, g2, g3, g4, htb2, hzz, f1, f2, f3, g5, hy, t1, g6] <;> rfl) (by simp only [go_sem] <;> rfl) (by simp only [go_sem] <;> rfl) ?_
    refine OpenK.nil (OpenE.finT (by kernel_rfl) (by kernel_rfl) (by kernel_rfl) ?_)
    refine Exec.cndS (by simp only [go_sem, hfr, g1, hf, Bool.not_true, htt, hz, hui, hs, g2, g3, g4, htb2, hzz, f1, f2, f3, g5, hy, t1, g6] <;> rfl) (fun hb109 => ?_) (fun hb109 => ?_)
    · exact absurd hb109 (by simp)
    refine Exec.skipS ?_
    refine Exec.assocS ?_
    refine Exec.opk 34 ?_
    iterate 4 (refine OpenK.op (by simp only [go_sem, hfr, g1, hf, Bool.not_true, htt, hz, hui, hs, g2, g3, g4, htb2, hzz, f1, f2, f3, g5, hy, t1, g6] <;> rfl) (by simp only [go_sem] <;> rfl) (by simp only [go_sem] <;> rfl) ?_)
    refine OpenK.cal (c_meterworksref02_Fits fs s.lo m hl6 hfs (by omega) hm) (by simp only [go_sem]) (by simp only [go_sem, hfr, g1, hf, Bool.not_true, htt, hz, hui, hs, g2, g3, g4, htb2, hzz, f1, f2, f3, g5, hy, t1, g6] <;> rfl) (by exact ⟨by first | exact WkR.pure rfl | exact WkR.nil _ | exact WkR.int (by first | omega | (simp; done) | (simp; omega)), by first | exact WkR.pure rfl | exact WkR.nil _ | exact WkR.int (by first | omega | (simp; done) | (simp; omega)), by first | exact WkR.pure rfl | exact WkR.nil _ | exact WkR.int (by first | omega | (simp; done) | (simp; omega)), trivial⟩) (fr0) (by simp only [go_sem, hfr, g1, hf, Bool.not_true, htt, hz, hui, hs, g2, g3, g4, htb2, hzz, f1, f2, f3, g5, hy, t1, g6] <;> rfl) (by simp only [go_sem] <;> rfl) (by simp only [go_sem] <;> rfl) ?_
    iterate 2 (refine OpenK.op (by simp only [go_sem, hfr, g1, hf, Bool.not_true, htt, hz, hui, hs, g2, g3, g4, htb2, hzz, f1, f2, f3, g5, hy, t1, g6] <;> rfl) (by simp only [go_sem] <;> rfl) (by simp only [go_sem] <;> rfl) ?_)
    iterate 4 (refine OpenK.yes (by simp only [go_sem] <;> rfl) (by simp only [go_sem, hfr, g1, hf, Bool.not_true, htt, hz, hui, hs, g2, g3, g4, htb2, hzz, f1, f2, f3, g5, hy, t1, g6] <;> rfl) (by simp only [go_sem] <;> rfl) (by simp only [go_sem] <;> rfl) ?_)
    refine OpenK.calw (by simp only [go_sem] <;> rfl) (c_meterworksref02_Fits fs s.hi m hl6 hfs (by omega) hm) (by simp only [go_sem]) (by simp only [go_sem, hfr, g1, hf, Bool.not_true, htt, hz, hui, hs, g2, g3, g4, htb2, hzz, f1, f2, f3, g5, hy, t1, g6] <;> rfl) (by simp only [go_sem, hfr, g1, hf, Bool.not_true, htt, hz, hui, hs, g2, g3, g4, htb2, hzz, f1, f2, f3, g5, hy, t1, g6] <;> rfl) (by exact ⟨by first | exact WkR.pure rfl | exact WkR.nil _ | exact WkR.int (by first | omega | (simp; done) | (simp; omega)), by first | exact WkR.pure rfl | exact WkR.nil _ | exact WkR.int (by first | omega | (simp; done) | (simp; omega)), by first | exact WkR.pure rfl | exact WkR.nil _ | exact WkR.int (by first | omega | (simp; done) | (simp; omega)), trivial⟩) (fr0) (by simp only [go_sem, hfr, g1, hf, Bool.not_true, htt, hz, hui, hs, g2, g3, g4, htb2, hzz, f1, f2, f3, g5, hy, t1, g6] <;> rfl) (by simp only [go_sem] <;> rfl) (by simp only [go_sem] <;> rfl) ?_
    refine OpenK.yes (by simp only [go_sem] <;> rfl) (by simp only [go_sem, hfr, g1, hf, Bool.not_true, htt, hz, hui, hs, g2, g3, g4, htb2, hzz, f1, f2, f3, g5, hy, t1, g6] <;> rfl) (by simp only [go_sem] <;> rfl) (by simp only [go_sem] <;> rfl) ?_
    iterate 2 (refine OpenK.op (by simp only [go_sem, hfr, g1, hf, Bool.not_true, htt, hz, hui, hs, g2, g3, g4, htb2, hzz, f1, f2, f3, g5, hy, t1, g6] <;> rfl) (by simp only [go_sem] <;> rfl) (by simp only [go_sem] <;> rfl) ?_)
    iterate 4 (refine OpenK.yes (by simp only [go_sem] <;> rfl) (by simp only [go_sem, hfr, g1, hf, Bool.not_true, htt, hz, hui, hs, g2, g3, g4, htb2, hzz, f1, f2, f3, g5, hy, t1, g6] <;> rfl) (by simp only [go_sem] <;> rfl) (by simp only [go_sem] <;> rfl) ?_)
    refine OpenK.yes (by simp only [go_sem] <;> rfl) (by simp only [go_sem, hfr, g1, hf, Bool.not_true, htt, hz, hui, hs, g2, g3, g4, htb2, hzz, f1, f2, f3, g5, hy, t1, g6]; (try simp (disch := omega) only [IntWalk.i64_in, IntWalk.u64_in, if_neg, if_pos])<;> rfl) (by simp only [go_sem] <;> rfl) (by simp only [go_sem] <;> rfl) ?_
    iterate 4 (refine OpenK.yes (by simp only [go_sem] <;> rfl) (by simp only [go_sem, hfr, g1, hf, Bool.not_true, htt, hz, hui, hs, g2, g3, g4, htb2, hzz, f1, f2, f3, g5, hy, t1, g6] <;> rfl) (by simp only [go_sem] <;> rfl) (by simp only [go_sem] <;> rfl) ?_)
    iterate 4 (refine OpenK.yes (by simp only [go_sem] <;> rfl) (by simp only [go_sem, hfr, g1, hf, Bool.not_true, htt, hz, hui, hs, g2, g3, g4, htb2, hzz, f1, f2, f3, g5, hy, t1, g6]; (try simp (disch := omega) only [IntWalk.i64_in, IntWalk.u64_in, if_neg, if_pos])<;> rfl) (by simp only [go_sem] <;> rfl) (by simp only [go_sem] <;> rfl) ?_)
    refine OpenK.yes (by simp only [go_sem] <;> rfl) (by simp only [go_sem, hfr, g1, hf, Bool.not_true, htt, hz, hui, hs, g2, g3, g4, htb2, hzz, f1, f2, f3, g5, hy, t1, g6] <;> rfl) (by simp only [go_sem] <;> rfl) (by simp only [go_sem] <;> rfl) ?_
    refine OpenK.calw (by simp only [go_sem] <;> rfl) (c_meterworksref02_Fits fs (s.lo + tb) m hl6 hfs (by omega) hm) (by simp only [go_sem]) (by simp only [go_sem, hfr, g1, hf, Bool.not_true, htt, hz, hui, hs, g2, g3, g4, htb2, hzz, f1, f2, f3, g5, hy, t1, g6] <;> rfl) (by simp only [go_sem, hfr, g1, hf, Bool.not_true, htt, hz, hui, hs, g2, g3, g4, htb2, hzz, f1, f2, f3, g5, hy, t1, g6] <;> rfl) (by exact ⟨by first | exact WkR.pure rfl | exact WkR.nil _ | exact WkR.int (by first | omega | (simp; done) | (simp; omega)), by first | exact WkR.pure rfl | exact WkR.nil _ | exact WkR.int (by first | omega | (simp; done) | (simp; omega)), by first | exact WkR.pure rfl | exact WkR.nil _ | exact WkR.int (by first | omega | (simp; done) | (simp; omega)), trivial⟩) (fr0) (by simp only [go_sem, hfr, g1, hf, Bool.not_true, htt, hz, hui, hs, g2, g3, g4, htb2, hzz, f1, f2, f3, g5, hy, t1, g6] <;> rfl) (by simp only [go_sem] <;> rfl) (by simp only [go_sem] <;> rfl) ?_
    refine OpenK.yes (by simp only [go_sem] <;> rfl) (by simp only [go_sem, hfr, g1, hf, Bool.not_true, htt, hz, hui, hs, g2, g3, g4, htb2, hzz, f1, f2, f3, g5, hy, t1, g6] <;> rfl) (by simp only [go_sem] <;> rfl) (by simp only [go_sem] <;> rfl) ?_
    refine OpenK.op (by simp only [go_sem, hfr, g1, hf, Bool.not_true, htt, hz, hui, hs, g2, g3, g4, htb2, hzz, f1, f2, f3, g5, hy, t1, g6] <;> rfl) (by simp only [go_sem] <;> rfl) (by simp only [go_sem] <;> rfl) ?_
    refine OpenK.nil (OpenE.finT (by kernel_rfl) (by kernel_rfl) (by kernel_rfl) ?_)
    refine Exec.cndS (by simp only [go_sem, hfr, g1, hf, Bool.not_true, htt, hz, hui, hs, g2, g3, g4, htb2, hzz, f1, f2, f3, g5, hy, t1, g6] <;> rfl) (fun hb141 => ?_) (fun hb141 => ?_)
    · exact absurd hb141 (by simp)
    refine Exec.skipS ?_
    by_cases hlo : 0 < s.lo
    · skip
      have g7 : decide (s.lo > 0) = true := decide_eq_true hlo
      have f4 := q3 hlo
      by_cases hhi : s.hi + 1 < turnD (fs.length : Int)
      · skip
        have g8 : decide (s.hi + 1 < turnD (fs.length : Int)) = true := decide_eq_true hhi
        have f5 := q4 hhi
        refine Exec.reg ?_
        iterate 4 (refine Run.op (by simp only [go_sem, hfr, g1, hf, Bool.not_true, htt, hz, hui, hs, g2, g3, g4, htb2, hzz, f1, f2, f3, g5, hy, t1, g6, g7, f4, g8, f5] <;> rfl) (by simp only [go_sem] <;> rfl) ?_)
        iterate 3 (refine Run.yes (by simp only [go_sem] <;> rfl) (by simp only [go_sem, hfr, g1, hf, Bool.not_true, htt, hz, hui, hs, g2, g3, g4, htb2, hzz, f1, f2, f3, g5, hy, t1, g6, g7, f4, g8, f5] <;> rfl) (by simp only [go_sem] <;> rfl) ?_)
        refine Run.yes (by simp only [go_sem] <;> rfl) (by simp only [go_sem, hfr, g1, hf, Bool.not_true, htt, hz, hui, hs, g2, g3, g4, htb2, hzz, f1, f2, f3, g5, hy, t1, g6, g7, f4, g8, f5]; (try simp (disch := omega) only [IntWalk.i64_in, IntWalk.u64_in, if_neg, if_pos])<;> rfl) (by simp only [go_sem] <;> rfl) ?_
        refine Run.yes (by simp only [go_sem] <;> rfl) (by simp only [go_sem, hfr, g1, hf, Bool.not_true, htt, hz, hui, hs, g2, g3, g4, htb2, hzz, f1, f2, f3, g5, hy, t1, g6, g7, f4, g8, f5] <;> rfl) (by simp only [go_sem] <;> rfl) ?_
        refine Run.calw (by simp only [go_sem] <;> rfl) (c_meterworksref02_Fits fs (s.lo - 1) m hl6 hfs (by omega) hm) (by simp only [go_sem]) (by simp only [go_sem, hfr, g1, hf, Bool.not_true, htt, hz, hui, hs, g2, g3, g4, htb2, hzz, f1, f2, f3, g5, hy, t1, g6, g7, f4, g8, f5] <;> rfl) (by simp only [go_sem, hfr, g1, hf, Bool.not_true, htt, hz, hui, hs, g2, g3, g4, htb2, hzz, f1, f2, f3, g5, hy, t1, g6, g7, f4, g8, f5] <;> rfl) (by exact ⟨by first | exact WkR.pure rfl | exact WkR.nil _ | exact WkR.int (by first | omega | (simp; done) | (simp; omega)), by first | exact WkR.pure rfl | exact WkR.nil _ | exact WkR.int (by first | omega | (simp; done) | (simp; omega)), by first | exact WkR.pure rfl | exact WkR.nil _ | exact WkR.int (by first | omega | (simp; done) | (simp; omega)), trivial⟩) (fr0) (by simp only [go_sem, hfr, g1, hf, Bool.not_true, htt, hz, hui, hs, g2, g3, g4, htb2, hzz, f1, f2, f3, g5, hy, t1, g6, g7, f4, g8, f5] <;> rfl) ?_
        iterate 2 (refine Run.op (by simp only [go_sem, hfr, g1, hf, Bool.not_true, htt, hz, hui, hs, g2, g3, g4, htb2, hzz, f1, f2, f3, g5, hy, t1, g6, g7, f4, g8, f5] <;> rfl) (by simp only [go_sem] <;> rfl) ?_)
        iterate 2 (refine Run.yes (by simp only [go_sem] <;> rfl) (by simp only [go_sem, hfr, g1, hf, Bool.not_true, htt, hz, hui, hs, g2, g3, g4, htb2, hzz, f1, f2, f3, g5, hy, t1, g6, g7, f4, g8, f5] <;> rfl) (by simp only [go_sem] <;> rfl) ?_)
        refine Run.yes (by simp only [go_sem] <;> rfl) (by simp only [go_sem, hfr, g1, hf, Bool.not_true, htt, hz, hui, hs, g2, g3, g4, htb2, hzz, f1, f2, f3, g5, hy, t1, g6, g7, f4, g8, f5]; (try simp (disch := omega) only [IntWalk.i64_in, IntWalk.u64_in, if_neg, if_pos])<;> rfl) (by simp only [go_sem] <;> rfl) ?_
        iterate 6 (refine Run.yes (by simp only [go_sem] <;> rfl) (by simp only [go_sem, hfr, g1, hf, Bool.not_true, htt, hz, hui, hs, g2, g3, g4, htb2, hzz, f1, f2, f3, g5, hy, t1, g6, g7, f4, g8, f5] <;> rfl) (by simp only [go_sem] <;> rfl) ?_)
        refine Run.yes (by simp only [go_sem] <;> rfl) (by simp only [go_sem, hfr, g1, hf, Bool.not_true, htt, hz, hui, hs, g2, g3, g4, htb2, hzz, f1, f2, f3, g5, hy, t1, g6, g7, f4, g8, f5]; (try simp (disch := omega) only [IntWalk.i64_in, IntWalk.u64_in, if_neg, if_pos])<;> rfl) (by simp only [go_sem] <;> rfl) ?_
        refine Run.yes (by simp only [go_sem] <;> rfl) (by simp only [go_sem, hfr, g1, hf, Bool.not_true, htt, hz, hui, hs, g2, g3, g4, htb2, hzz, f1, f2, f3, g5, hy, t1, g6, g7, f4, g8, f5] <;> rfl) (by simp only [go_sem] <;> rfl) ?_
        refine Run.calw (by simp only [go_sem] <;> rfl) (c_meterworksref02_Fits fs (s.hi + 1) m hl6 hfs (by omega) hm) (by simp only [go_sem]) (by simp only [go_sem, hfr, g1, hf, Bool.not_true, htt, hz, hui, hs, g2, g3, g4, htb2, hzz, f1, f2, f3, g5, hy, t1, g6, g7, f4, g8, f5] <;> rfl) (by simp only [go_sem, hfr, g1, hf, Bool.not_true, htt, hz, hui, hs, g2, g3, g4, htb2, hzz, f1, f2, f3, g5, hy, t1, g6, g7, f4, g8, f5] <;> rfl) (by exact ⟨by first | exact WkR.pure rfl | exact WkR.nil _ | exact WkR.int (by first | omega | (simp; done) | (simp; omega)), by first | exact WkR.pure rfl | exact WkR.nil _ | exact WkR.int (by first | omega | (simp; done) | (simp; omega)), by first | exact WkR.pure rfl | exact WkR.nil _ | exact WkR.int (by first | omega | (simp; done) | (simp; omega)), trivial⟩) (fr0) (by simp only [go_sem, hfr, g1, hf, Bool.not_true, htt, hz, hui, hs, g2, g3, g4, htb2, hzz, f1, f2, f3, g5, hy, t1, g6, g7, f4, g8, f5] <;> rfl) ?_
        refine Run.yes (by simp only [go_sem] <;> rfl) (by simp only [go_sem, hfr, g1, hf, Bool.not_true, htt, hz, hui, hs, g2, g3, g4, htb2, hzz, f1, f2, f3, g5, hy, t1, g6, g7, f4, g8, f5] <;> rfl) (by simp only [go_sem] <;> rfl) ?_
        refine Run.op (by simp only [go_sem, hfr, g1, hf, Bool.not_true, htt, hz, hui, hs, g2, g3, g4, htb2, hzz, f1, f2, f3, g5, hy, t1, g6, g7, f4, g8, f5] <;> rfl) (by simp only [go_sem] <;> rfl) ?_
        refine Run.nil ?_
        refine Exec.cnd (by simp only [go_sem, hfr, g1, hf, Bool.not_true, htt, hz, hui, hs, g2, g3, g4, htb2, hzz, f1, f2, f3, g5, hy, t1, g6, g7, f4, g8, f5] <;> rfl) (fun hb167 => ?_) (fun hb167 => ?_)
        · exact absurd hb167 (by simp)
        refine BlkK.nrm ?_
        refine Exec.reg1 ?_
        refine Run.op (by simp only [go_sem] <;> rfl) (by simp only [go_sem] <;> rfl) ?_
        refine Run.op (by simp only [go_sem, hfr, g1, hf, Bool.not_true, htt, hz, hui, hs, g2, g3, g4, htb2, hzz, f1, f2, f3, g5, hy, t1, g6, g7, f4, g8, f5]; (try simp (disch := omega) only [IntWalk.i64_in, IntWalk.u64_in, if_neg, if_pos])<;> rfl) (by simp only [go_sem] <;> rfl) ?_
        refine Run.op (by simp only [go_sem] <;> rfl) (by simp only [go_sem] <;> rfl) ?_
        refine Run.nil ?_
        refine ForK.nxt ?_ ?_ ?_
        · omega
        · exact Ghost.kp [0, 1, 2, 3, 9, 12, 13] [] (by simp only [go_sem, hfr, g1, hf, Bool.not_true, htt, hz, hui, hs, g2, g3, g4, htb2, hzz, f1, f2, f3, g5, hy, t1, g6, g7, f4, g8, f5]; first | ((repeat' (first | with_reducible_and_instances rfl | refine st_eq ?_ ?_ ?_ | refine ret_eq ?_ | refine tup_eq ?_ | refine tm_eq ?_ ?_ | refine arr_eq ?_ | refine cells_eq ?_ | refine val_eq ?_ | refine ls_eq ?_ ?_ | refine own_eq ?_ ?_ | refine sl_eq ?_ | refine b_eq ?_ | (refine i_eq ?_; omega))); done) | rfl)
        · trivial
      have g8 : decide (s.hi + 1 < turnD (fs.length : Int)) = false := decide_eq_false hhi
      refine Exec.reg ?_
      iterate 4 (refine Run.op (by simp only [go_sem, hfr, g1, hf, Bool.not_true, htt, hz, hui, hs, g2, g3, g4, htb2, hzz, f1, f2, f3, g5, hy, t1, g6, g7, f4, g8] <;> rfl) (by simp only [go_sem] <;> rfl) ?_)
      iterate 3 (refine Run.yes (by simp only [go_sem] <;> rfl) (by simp only [go_sem, hfr, g1, hf, Bool.not_true, htt, hz, hui, hs, g2, g3, g4, htb2, hzz, f1, f2, f3, g5, hy, t1, g6, g7, f4, g8] <;> rfl) (by simp only [go_sem] <;> rfl) ?_)
      refine Run.yes (by simp only [go_sem] <;> rfl) (by simp only [go_sem, hfr, g1, hf, Bool.not_true, htt, hz, hui, hs, g2, g3, g4, htb2, hzz, f1, f2, f3, g5, hy, t1, g6, g7, f4, g8]; (try simp (disch := omega) only [IntWalk.i64_in, IntWalk.u64_in, if_neg, if_pos])<;> rfl) (by simp only [go_sem] <;> rfl) ?_
      refine Run.yes (by simp only [go_sem] <;> rfl) (by simp only [go_sem, hfr, g1, hf, Bool.not_true, htt, hz, hui, hs, g2, g3, g4, htb2, hzz, f1, f2, f3, g5, hy, t1, g6, g7, f4, g8] <;> rfl) (by simp only [go_sem] <;> rfl) ?_
      refine Run.calw (by simp only [go_sem] <;> rfl) (c_meterworksref02_Fits fs (s.lo - 1) m hl6 hfs (by omega) hm) (by simp only [go_sem]) (by simp only [go_sem, hfr, g1, hf, Bool.not_true, htt, hz, hui, hs, g2, g3, g4, htb2, hzz, f1, f2, f3, g5, hy, t1, g6, g7, f4, g8] <;> rfl) (by simp only [go_sem, hfr, g1, hf, Bool.not_true, htt, hz, hui, hs, g2, g3, g4, htb2, hzz, f1, f2, f3, g5, hy, t1, g6, g7, f4, g8] <;> rfl) (by exact ⟨by first | exact WkR.pure rfl | exact WkR.nil _ | exact WkR.int (by first | omega | (simp; done) | (simp; omega)), by first | exact WkR.pure rfl | exact WkR.nil _ | exact WkR.int (by first | omega | (simp; done) | (simp; omega)), by first | exact WkR.pure rfl | exact WkR.nil _ | exact WkR.int (by first | omega | (simp; done) | (simp; omega)), trivial⟩) (fr0) (by simp only [go_sem, hfr, g1, hf, Bool.not_true, htt, hz, hui, hs, g2, g3, g4, htb2, hzz, f1, f2, f3, g5, hy, t1, g6, g7, f4, g8] <;> rfl) ?_
      iterate 2 (refine Run.op (by simp only [go_sem, hfr, g1, hf, Bool.not_true, htt, hz, hui, hs, g2, g3, g4, htb2, hzz, f1, f2, f3, g5, hy, t1, g6, g7, f4, g8] <;> rfl) (by simp only [go_sem] <;> rfl) ?_)
      iterate 2 (refine Run.yes (by simp only [go_sem] <;> rfl) (by simp only [go_sem, hfr, g1, hf, Bool.not_true, htt, hz, hui, hs, g2, g3, g4, htb2, hzz, f1, f2, f3, g5, hy, t1, g6, g7, f4, g8] <;> rfl) (by simp only [go_sem] <;> rfl) ?_)
      refine Run.yes (by simp only [go_sem] <;> rfl) (by simp only [go_sem, hfr, g1, hf, Bool.not_true, htt, hz, hui, hs, g2, g3, g4, htb2, hzz, f1, f2, f3, g5, hy, t1, g6, g7, f4, g8]; (try simp (disch := omega) only [IntWalk.i64_in, IntWalk.u64_in, if_neg, if_pos])<;> rfl) (by simp only [go_sem] <;> rfl) ?_
      iterate 3 (refine Run.yes (by simp only [go_sem] <;> rfl) (by simp only [go_sem, hfr, g1, hf, Bool.not_true, htt, hz, hui, hs, g2, g3, g4, htb2, hzz, f1, f2, f3, g5, hy, t1, g6, g7, f4, g8] <;> rfl) (by simp only [go_sem] <;> rfl) ?_)
      iterate 6 (refine Run.skp (by simp only [go_sem] <;> rfl) (by simp only [go_sem] <;> rfl) ?_)
      refine Run.yes (by simp only [go_sem] <;> rfl) (by simp only [go_sem, hfr, g1, hf, Bool.not_true, htt, hz, hui, hs, g2, g3, g4, htb2, hzz, f1, f2, f3, g5, hy, t1, g6, g7, f4, g8] <;> rfl) (by simp only [go_sem] <;> rfl) ?_
      refine Run.op (by simp only [go_sem, hfr, g1, hf, Bool.not_true, htt, hz, hui, hs, g2, g3, g4, htb2, hzz, f1, f2, f3, g5, hy, t1, g6, g7, f4, g8] <;> rfl) (by simp only [go_sem] <;> rfl) ?_
      refine Run.nil ?_
      refine Exec.cnd (by simp only [go_sem, hfr, g1, hf, Bool.not_true, htt, hz, hui, hs, g2, g3, g4, htb2, hzz, f1, f2, f3, g5, hy, t1, g6, g7, f4, g8] <;> rfl) (fun hb167 => ?_) (fun hb167 => ?_)
      · exact absurd hb167 (by simp)
      refine BlkK.nrm ?_
      refine Exec.reg1 ?_
      refine Run.op (by simp only [go_sem] <;> rfl) (by simp only [go_sem] <;> rfl) ?_
      refine Run.op (by simp only [go_sem, hfr, g1, hf, Bool.not_true, htt, hz, hui, hs, g2, g3, g4, htb2, hzz, f1, f2, f3, g5, hy, t1, g6, g7, f4, g8]; (try simp (disch := omega) only [IntWalk.i64_in, IntWalk.u64_in, if_neg, if_pos])<;> rfl) (by simp only [go_sem] <;> rfl) ?_
      refine Run.op (by simp only [go_sem] <;> rfl) (by simp only [go_sem] <;> rfl) ?_
      refine Run.nil ?_
      refine ForK.nxt ?_ ?_ ?_
      · omega
      · exact Ghost.kp [0, 1, 2, 3, 9, 12, 13] [] (by simp only [go_sem, hfr, g1, hf, Bool.not_true, htt, hz, hui, hs, g2, g3, g4, htb2, hzz, f1, f2, f3, g5, hy, t1, g6, g7, f4, g8]; first | ((repeat' (first | with_reducible_and_instances rfl | refine st_eq ?_ ?_ ?_ | refine ret_eq ?_ | refine tup_eq ?_ | refine tm_eq ?_ ?_ | refine arr_eq ?_ | refine cells_eq ?_ | refine val_eq ?_ | refine ls_eq ?_ ?_ | refine own_eq ?_ ?_ | refine sl_eq ?_ | refine b_eq ?_ | (refine i_eq ?_; omega))); done) | rfl)
      · trivial
    have g7 : decide (s.lo > 0) = false := decide_eq_false hlo
    by_cases hhi : s.hi + 1 < turnD (fs.length : Int)
    · skip
      have g8 : decide (s.hi + 1 < turnD (fs.length : Int)) = true := decide_eq_true hhi
      have f5 := q4 hhi
      refine Exec.reg ?_
      iterate 4 (refine Run.op (by simp only [go_sem, hfr, g1, hf, Bool.not_true, htt, hz, hui, hs, g2, g3, g4, htb2, hzz, f1, f2, f3, g5, hy, t1, g6, g7, g8, f5] <;> rfl) (by simp only [go_sem] <;> rfl) ?_)
      iterate 6 (refine Run.skp (by simp only [go_sem] <;> rfl) (by simp only [go_sem] <;> rfl) ?_)
      iterate 2 (refine Run.op (by simp only [go_sem, hfr, g1, hf, Bool.not_true, htt, hz, hui, hs, g2, g3, g4, htb2, hzz, f1, f2, f3, g5, hy, t1, g6, g7, g8, f5] <;> rfl) (by simp only [go_sem] <;> rfl) ?_)
      iterate 2 (refine Run.yes (by simp only [go_sem] <;> rfl) (by simp only [go_sem, hfr, g1, hf, Bool.not_true, htt, hz, hui, hs, g2, g3, g4, htb2, hzz, f1, f2, f3, g5, hy, t1, g6, g7, g8, f5] <;> rfl) (by simp only [go_sem] <;> rfl) ?_)
      refine Run.yes (by simp only [go_sem] <;> rfl) (by simp only [go_sem, hfr, g1, hf, Bool.not_true, htt, hz, hui, hs, g2, g3, g4, htb2, hzz, f1, f2, f3, g5, hy, t1, g6, g7, g8, f5]; (try simp (disch := omega) only [IntWalk.i64_in, IntWalk.u64_in, if_neg, if_pos])<;> rfl) (by simp only [go_sem] <;> rfl) ?_
      iterate 6 (refine Run.yes (by simp only [go_sem] <;> rfl) (by simp only [go_sem, hfr, g1, hf, Bool.not_true, htt, hz, hui, hs, g2, g3, g4, htb2, hzz, f1, f2, f3, g5, hy, t1, g6, g7, g8, f5] <;> rfl) (by simp only [go_sem] <;> rfl) ?_)
      refine Run.yes (by simp only [go_sem] <;> rfl) (by simp only [go_sem, hfr, g1, hf, Bool.not_true, htt, hz, hui, hs, g2, g3, g4, htb2, hzz, f1, f2, f3, g5, hy, t1, g6, g7, g8, f5]; (try simp (disch := omega) only [IntWalk.i64_in, IntWalk.u64_in, if_neg, if_pos])<;> rfl) (by simp only [go_sem] <;> rfl) ?_
      refine Run.yes (by simp only [go_sem] <;> rfl) (by simp only [go_sem, hfr, g1, hf, Bool.not_true, htt, hz, hui, hs, g2, g3, g4, htb2, hzz, f1, f2, f3, g5, hy, t1, g6, g7, g8, f5] <;> rfl) (by simp only [go_sem] <;> rfl) ?_
      refine Run.calw (by simp only [go_sem] <;> rfl) (c_meterworksref02_Fits fs (s.hi + 1) m hl6 hfs (by omega) hm) (by simp only [go_sem]) (by simp only [go_sem, hfr, g1, hf, Bool.not_true, htt, hz, hui, hs, g2, g3, g4, htb2, hzz, f1, f2, f3, g5, hy, t1, g6, g7, g8, f5] <;> rfl) (by simp only [go_sem, hfr, g1, hf, Bool.not_true, htt, hz, hui, hs, g2, g3, g4, htb2, hzz, f1, f2, f3, g5, hy, t1, g6, g7, g8, f5] <;> rfl) (by exact ⟨by first | exact WkR.pure rfl | exact WkR.nil _ | exact WkR.int (by first | omega | (simp; done) | (simp; omega)), by first | exact WkR.pure rfl | exact WkR.nil _ | exact WkR.int (by first | omega | (simp; done) | (simp; omega)), by first | exact WkR.pure rfl | exact WkR.nil _ | exact WkR.int (by first | omega | (simp; done) | (simp; omega)), trivial⟩) (fr0) (by simp only [go_sem, hfr, g1, hf, Bool.not_true, htt, hz, hui, hs, g2, g3, g4, htb2, hzz, f1, f2, f3, g5, hy, t1, g6, g7, g8, f5] <;> rfl) ?_
      refine Run.yes (by simp only [go_sem] <;> rfl) (by simp only [go_sem, hfr, g1, hf, Bool.not_true, htt, hz, hui, hs, g2, g3, g4, htb2, hzz, f1, f2, f3, g5, hy, t1, g6, g7, g8, f5] <;> rfl) (by simp only [go_sem] <;> rfl) ?_
      refine Run.op (by simp only [go_sem, hfr, g1, hf, Bool.not_true, htt, hz, hui, hs, g2, g3, g4, htb2, hzz, f1, f2, f3, g5, hy, t1, g6, g7, g8, f5] <;> rfl) (by simp only [go_sem] <;> rfl) ?_
      refine Run.nil ?_
      refine Exec.cnd (by simp only [go_sem, hfr, g1, hf, Bool.not_true, htt, hz, hui, hs, g2, g3, g4, htb2, hzz, f1, f2, f3, g5, hy, t1, g6, g7, g8, f5] <;> rfl) (fun hb167 => ?_) (fun hb167 => ?_)
      · exact absurd hb167 (by simp)
      refine BlkK.nrm ?_
      refine Exec.reg1 ?_
      refine Run.op (by simp only [go_sem] <;> rfl) (by simp only [go_sem] <;> rfl) ?_
      refine Run.op (by simp only [go_sem, hfr, g1, hf, Bool.not_true, htt, hz, hui, hs, g2, g3, g4, htb2, hzz, f1, f2, f3, g5, hy, t1, g6, g7, g8, f5]; (try simp (disch := omega) only [IntWalk.i64_in, IntWalk.u64_in, if_neg, if_pos])<;> rfl) (by simp only [go_sem] <;> rfl) ?_
      refine Run.op (by simp only [go_sem] <;> rfl) (by simp only [go_sem] <;> rfl) ?_
      refine Run.nil ?_
      refine ForK.nxt ?_ ?_ ?_
      · omega
      · exact Ghost.kp [0, 1, 2, 3, 9, 12, 13] [] (by simp only [go_sem, hfr, g1, hf, Bool.not_true, htt, hz, hui, hs, g2, g3, g4, htb2, hzz, f1, f2, f3, g5, hy, t1, g6, g7, g8, f5]; first | ((repeat' (first | with_reducible_and_instances rfl | refine st_eq ?_ ?_ ?_ | refine ret_eq ?_ | refine tup_eq ?_ | refine tm_eq ?_ ?_ | refine arr_eq ?_ | refine cells_eq ?_ | refine val_eq ?_ | refine ls_eq ?_ ?_ | refine own_eq ?_ ?_ | refine sl_eq ?_ | refine b_eq ?_ | (refine i_eq ?_; omega))); done) | rfl)
      · trivial
    have g8 : decide (s.hi + 1 < turnD (fs.length : Int)) = false := decide_eq_false hhi
    refine Exec.reg ?_
    iterate 4 (refine Run.op (by simp only [go_sem, hfr, g1, hf, Bool.not_true, htt, hz, hui, hs, g2, g3, g4, htb2, hzz, f1, f2, f3, g5, hy, t1, g6, g7, g8] <;> rfl) (by simp only [go_sem] <;> rfl) ?_)
    iterate 6 (refine Run.skp (by simp only [go_sem] <;> rfl) (by simp only [go_sem] <;> rfl) ?_)
    iterate 2 (refine Run.op (by simp only [go_sem, hfr, g1, hf, Bool.not_true, htt, hz, hui, hs, g2, g3, g4, htb2, hzz, f1, f2, f3, g5, hy, t1, g6, g7, g8] <;> rfl) (by simp only [go_sem] <;> rfl) ?_)
    iterate 2 (refine Run.yes (by simp only [go_sem] <;> rfl) (by simp only [go_sem, hfr, g1, hf, Bool.not_true, htt, hz, hui, hs, g2, g3, g4, htb2, hzz, f1, f2, f3, g5, hy, t1, g6, g7, g8] <;> rfl) (by simp only [go_sem] <;> rfl) ?_)
    refine Run.yes (by simp only [go_sem] <;> rfl) (by simp only [go_sem, hfr, g1, hf, Bool.not_true, htt, hz, hui, hs, g2, g3, g4, htb2, hzz, f1, f2, f3, g5, hy, t1, g6, g7, g8]; (try simp (disch := omega) only [IntWalk.i64_in, IntWalk.u64_in, if_neg, if_pos])<;> rfl) (by simp only [go_sem] <;> rfl) ?_
    iterate 3 (refine Run.yes (by simp only [go_sem] <;> rfl) (by simp only [go_sem, hfr, g1, hf, Bool.not_true, htt, hz, hui, hs, g2, g3, g4, htb2, hzz, f1, f2, f3, g5, hy, t1, g6, g7, g8] <;> rfl) (by simp only [go_sem] <;> rfl) ?_)
    iterate 6 (refine Run.skp (by simp only [go_sem] <;> rfl) (by simp only [go_sem] <;> rfl) ?_)
    refine Run.yes (by simp only [go_sem] <;> rfl) (by simp only [go_sem, hfr, g1, hf, Bool.not_true, htt, hz, hui, hs, g2, g3, g4, htb2, hzz, f1, f2, f3, g5, hy, t1, g6, g7, g8] <;> rfl) (by simp only [go_sem] <;> rfl) ?_
    refine Run.op (by simp only [go_sem, hfr, g1, hf, Bool.not_true, htt, hz, hui, hs, g2, g3, g4, htb2, hzz, f1, f2, f3, g5, hy, t1, g6, g7, g8] <;> rfl) (by simp only [go_sem] <;> rfl) ?_
    refine Run.nil ?_
    refine Exec.cnd (by simp only [go_sem, hfr, g1, hf, Bool.not_true, htt, hz, hui, hs, g2, g3, g4, htb2, hzz, f1, f2, f3, g5, hy, t1, g6, g7, g8] <;> rfl) (fun hb167 => ?_) (fun hb167 => ?_)
    · exact absurd hb167 (by simp)
    refine BlkK.nrm ?_
    refine Exec.reg1 ?_
    refine Run.op (by simp only [go_sem] <;> rfl) (by simp only [go_sem] <;> rfl) ?_
    refine Run.op (by simp only [go_sem, hfr, g1, hf, Bool.not_true, htt, hz, hui, hs, g2, g3, g4, htb2, hzz, f1, f2, f3, g5, hy, t1, g6, g7, g8]; (try simp (disch := omega) only [IntWalk.i64_in, IntWalk.u64_in, if_neg, if_pos])<;> rfl) (by simp only [go_sem] <;> rfl) ?_
    refine Run.op (by simp only [go_sem] <;> rfl) (by simp only [go_sem] <;> rfl) ?_
    refine Run.nil ?_
    refine ForK.nxt ?_ ?_ ?_
    · omega
    · exact Ghost.kp [0, 1, 2, 3, 9, 12, 13] [] (by simp only [go_sem, hfr, g1, hf, Bool.not_true, htt, hz, hui, hs, g2, g3, g4, htb2, hzz, f1, f2, f3, g5, hy, t1, g6, g7, g8]; first | ((repeat' (first | with_reducible_and_instances rfl | refine st_eq ?_ ?_ ?_ | refine ret_eq ?_ | refine tup_eq ?_ | refine tm_eq ?_ ?_ | refine arr_eq ?_ | refine cells_eq ?_ | refine val_eq ?_ | refine ls_eq ?_ ?_ | refine own_eq ?_ ?_ | refine sl_eq ?_ | refine b_eq ?_ | (refine i_eq ?_; omega))); done) | rfl)
    · trivial
  skip
  refine Exec.exitS ?_
  refine ForK.ext ?_
  refine BlkK.hit ?_
  refine Exec.reg ?_
  refine Run.op (by simp only [go_sem] <;> rfl) (by simp only [go_sem] <;> rfl) ?_
  refine Run.op (by simp only [go_sem, hfr, g1, hf, Bool.not_true, htt, hz, hui]; (try simp (disch := omega) only [IntWalk.i64_in, IntWalk.u64_in, if_neg, if_pos])<;> rfl) (by simp only [go_sem] <;> rfl) ?_
  refine Run.op (by simp only [go_sem] <;> rfl) (by simp only [go_sem] <;> rfl) ?_
  refine Run.op (by simp only [go_sem, hfr, g1, hf, Bool.not_true, htt, hz, hui]; (try simp (disch := omega) only [IntWalk.i64_in, IntWalk.u64_in, if_neg, if_pos])<;> rfl) (by simp only [go_sem] <;> rfl) ?_
  refine Run.op (by simp only [go_sem] <;> rfl) (by simp only [go_sem] <;> rfl) ?_
  refine Run.nil ?_
  refine Exec.reg ?_
  refine Run.op (by simp only [go_sem] <;> rfl) (by simp only [go_sem] <;> rfl) ?_
  refine Run.nil ?_
  refine Exec.assocS ?_
  refine Exec.reg ?_
  refine Run.op (by simp only [go_sem] <;> rfl) (by simp only [go_sem] <;> rfl) ?_
  refine Run.nil ?_
  refine Exec.blk ?_
  refine Exec.forA [0, 1, 2, 9, 15, 16, 17] [] ((fitL fs m).length) (fun k => [.slot 17 (.int k), .slot 16 (.bool (((fitL fs m).take k).any (fun q => decide (q.lo ≤ tt) && decide (tt ≤ q.hi))))]) (fun _ => True) (fun k => by simp only [go_sem] <;> rfl) (by simp only [go_sem, hfr, g1, hf, Bool.not_true, htt, hz, hui, List.take_zero, List.any_nil, Int.natCast_zero] <;> rfl) ?_ (fun k hk hX => ?_)
  · trivial
  refine Exec.assocS ?_
  refine Exec.reg ?_
  iterate 2 (refine Run.op (by simp only [go_sem] <;> rfl) (by simp only [go_sem] <;> rfl) ?_)
  iterate 2 (refine Run.op (by simp only [go_sem, hfr, g1, hf, Bool.not_true, htt, hz, hui] <;> rfl) (by simp only [go_sem] <;> rfl) ?_)
  refine Run.nil ?_
  refine Exec.cndS (by simp only [go_sem, hfr, g1, hf, Bool.not_true, htt, hz, hui] <;> rfl) (fun hb175 => ?_) (fun hb175 => ?_)
  · skip
    have hlt := lt_of_dec hb175
    obtain ⟨s, hs⟩ : ∃ s, (fitL fs m)[k]? = some s := ⟨_, List.getElem?_eq_getElem hlt⟩
    have hny := any_takeS (p := fun q => decide (q.lo ≤ tt) && decide (tt ≤ q.hi)) hs
    refine Exec.skipS ?_
    refine Exec.blk ?_
    by_cases hfo : ((fitL fs m).take k).any (fun q => decide (q.lo ≤ tt) && decide (tt ≤ q.hi)) = true
    · skip
      refine Exec.reg1 ?_
      refine Run.op (by simp only [go_sem] <;> rfl) (by simp only [go_sem] <;> rfl) ?_
      refine Run.op (by simp only [go_sem, hfr, g1, hf, Bool.not_true, htt, hz, hui, hs, hny, hfo] <;> rfl) (by simp only [go_sem] <;> rfl) ?_
      iterate 16 (refine Run.skp (by simp only [go_sem] <;> rfl) (by simp only [go_sem] <;> rfl) ?_)
      refine Run.op (by simp only [go_sem, hfr, g1, hf, Bool.not_true, htt, hz, hui, hs, hny, hfo] <;> rfl) (by simp only [go_sem] <;> rfl) ?_
      refine Run.op (by simp only [go_sem] <;> rfl) (by simp only [go_sem] <;> rfl) ?_
      refine Run.nil ?_
      refine BlkK.nrm ?_
      refine Exec.reg1 ?_
      refine Run.op (by simp only [go_sem] <;> rfl) (by simp only [go_sem] <;> rfl) ?_
      refine Run.op (by simp only [go_sem, hfr, g1, hf, Bool.not_true, htt, hz, hui, hs, hny, hfo]; (try simp (disch := omega) only [IntWalk.i64_in, IntWalk.u64_in, if_neg, if_pos])<;> rfl) (by simp only [go_sem] <;> rfl) ?_
      refine Run.op (by simp only [go_sem] <;> rfl) (by simp only [go_sem] <;> rfl) ?_
      refine Run.nil ?_
      refine ForK.nxt ?_ ?_ ?_
      · omega
      · exact Ghost.kp [0, 1, 2, 9, 15, 16, 17] [] (by simp only [go_sem, hfr, g1, hf, Bool.not_true, htt, hz, hui, hs, hny, hfo]; first | ((repeat' (first | with_reducible_and_instances rfl | refine st_eq ?_ ?_ ?_ | refine ret_eq ?_ | refine tup_eq ?_ | refine tm_eq ?_ ?_ | refine arr_eq ?_ | refine cells_eq ?_ | refine val_eq ?_ | refine ls_eq ?_ ?_ | refine own_eq ?_ ?_ | refine sl_eq ?_ | refine b_eq ?_ | (refine i_eq ?_; omega))); (all_goals (simp_all))) | rfl)
      · trivial
    have hfo2 : ((fitL fs m).take k).any (fun q => decide (q.lo ≤ tt) && decide (tt ≤ q.hi)) = false := by simpa using hfo
    by_cases hll : s.lo ≤ tt
    · skip
      have g9 : decide (s.lo ≤ tt) = true := decide_eq_true hll
      refine Exec.reg1 ?_
      refine Run.op (by simp only [go_sem] <;> rfl) (by simp only [go_sem] <;> rfl) ?_
      refine Run.op (by simp only [go_sem, hfr, g1, hf, Bool.not_true, htt, hz, hui, hs, hny, hfo2, g9] <;> rfl) (by simp only [go_sem] <;> rfl) ?_
      iterate 2 (refine Run.yes (by simp only [go_sem] <;> rfl) (by simp only [go_sem] <;> rfl) (by simp only [go_sem] <;> rfl) ?_)
      refine Run.yes (by simp only [go_sem] <;> rfl) (by simp only [go_sem, hfr, g1, hf, Bool.not_true, htt, hz, hui, hs, hny, hfo2, g9]; (try simp (disch := omega) only [if_pos]); (try simp only [go_sem, hfr, g1, hf, Bool.not_true, htt, hz, hui, hs, hny, hfo2, g9])<;> rfl) (by simp only [go_sem] <;> rfl) ?_
      refine Run.yes (by simp only [go_sem] <;> rfl) (by simp only [go_sem] <;> rfl) (by simp only [go_sem] <;> rfl) ?_
      refine Run.yes (by simp only [go_sem] <;> rfl) (by simp only [go_sem, hfr, g1, hf, Bool.not_true, htt, hz, hui, hs, hny, hfo2, g9] <;> rfl) (by simp only [go_sem] <;> rfl) ?_
      refine Run.yes (by simp only [go_sem] <;> rfl) (by simp only [go_sem] <;> rfl) (by simp only [go_sem] <;> rfl) ?_
      iterate 2 (refine Run.yes (by simp only [go_sem] <;> rfl) (by simp only [go_sem, hfr, g1, hf, Bool.not_true, htt, hz, hui, hs, hny, hfo2, g9] <;> rfl) (by simp only [go_sem] <;> rfl) ?_)
      iterate 3 (refine Run.yes (by simp only [go_sem] <;> rfl) (by simp only [go_sem] <;> rfl) (by simp only [go_sem] <;> rfl) ?_)
      refine Run.yes (by simp only [go_sem] <;> rfl) (by simp only [go_sem, hfr, g1, hf, Bool.not_true, htt, hz, hui, hs, hny, hfo2, g9]; (try simp (disch := omega) only [if_pos]); (try simp only [go_sem, hfr, g1, hf, Bool.not_true, htt, hz, hui, hs, hny, hfo2, g9])<;> rfl) (by simp only [go_sem] <;> rfl) ?_
      refine Run.yes (by simp only [go_sem] <;> rfl) (by simp only [go_sem] <;> rfl) (by simp only [go_sem] <;> rfl) ?_
      iterate 3 (refine Run.yes (by simp only [go_sem] <;> rfl) (by simp only [go_sem, hfr, g1, hf, Bool.not_true, htt, hz, hui, hs, hny, hfo2, g9] <;> rfl) (by simp only [go_sem] <;> rfl) ?_)
      refine Run.op (by simp only [go_sem, hfr, g1, hf, Bool.not_true, htt, hz, hui, hs, hny, hfo2, g9] <;> rfl) (by simp only [go_sem] <;> rfl) ?_
      refine Run.op (by simp only [go_sem] <;> rfl) (by simp only [go_sem] <;> rfl) ?_
      refine Run.nil ?_
      refine BlkK.nrm ?_
      refine Exec.reg1 ?_
      refine Run.op (by simp only [go_sem] <;> rfl) (by simp only [go_sem] <;> rfl) ?_
      refine Run.op (by simp only [go_sem, hfr, g1, hf, Bool.not_true, htt, hz, hui, hs, hny, hfo2, g9]; (try simp (disch := omega) only [IntWalk.i64_in, IntWalk.u64_in, if_neg, if_pos])<;> rfl) (by simp only [go_sem] <;> rfl) ?_
      refine Run.op (by simp only [go_sem] <;> rfl) (by simp only [go_sem] <;> rfl) ?_
      refine Run.nil ?_
      refine ForK.nxt ?_ ?_ ?_
      · omega
      · exact Ghost.kp [0, 1, 2, 9, 15, 16, 17] [] (by simp only [go_sem, hfr, g1, hf, Bool.not_true, htt, hz, hui, hs, hny, hfo2, g9]; first | ((repeat' (first | with_reducible_and_instances rfl | refine st_eq ?_ ?_ ?_ | refine ret_eq ?_ | refine tup_eq ?_ | refine tm_eq ?_ ?_ | refine arr_eq ?_ | refine cells_eq ?_ | refine val_eq ?_ | refine ls_eq ?_ ?_ | refine own_eq ?_ ?_ | refine sl_eq ?_ | refine b_eq ?_ | (refine i_eq ?_; omega))); (all_goals (simp_all))) | rfl)
      · trivial
    have g9 : decide (s.lo ≤ tt) = false := decide_eq_false hll
    refine Exec.reg1 ?_
    refine Run.op (by simp only [go_sem] <;> rfl) (by simp only [go_sem] <;> rfl) ?_
    refine Run.op (by simp only [go_sem, hfr, g1, hf, Bool.not_true, htt, hz, hui, hs, hny, hfo2, g9] <;> rfl) (by simp only [go_sem] <;> rfl) ?_
    iterate 2 (refine Run.yes (by simp only [go_sem] <;> rfl) (by simp only [go_sem] <;> rfl) (by simp only [go_sem] <;> rfl) ?_)
    refine Run.yes (by simp only [go_sem] <;> rfl) (by simp only [go_sem, hfr, g1, hf, Bool.not_true, htt, hz, hui, hs, hny, hfo2, g9]; (try simp (disch := omega) only [if_pos]); (try simp only [go_sem, hfr, g1, hf, Bool.not_true, htt, hz, hui, hs, hny, hfo2, g9])<;> rfl) (by simp only [go_sem] <;> rfl) ?_
    refine Run.yes (by simp only [go_sem] <;> rfl) (by simp only [go_sem] <;> rfl) (by simp only [go_sem] <;> rfl) ?_
    refine Run.yes (by simp only [go_sem] <;> rfl) (by simp only [go_sem, hfr, g1, hf, Bool.not_true, htt, hz, hui, hs, hny, hfo2, g9] <;> rfl) (by simp only [go_sem] <;> rfl) ?_
    refine Run.yes (by simp only [go_sem] <;> rfl) (by simp only [go_sem] <;> rfl) (by simp only [go_sem] <;> rfl) ?_
    iterate 2 (refine Run.yes (by simp only [go_sem] <;> rfl) (by simp only [go_sem, hfr, g1, hf, Bool.not_true, htt, hz, hui, hs, hny, hfo2, g9] <;> rfl) (by simp only [go_sem] <;> rfl) ?_)
    iterate 7 (refine Run.skp (by simp only [go_sem] <;> rfl) (by simp only [go_sem] <;> rfl) ?_)
    refine Run.yes (by simp only [go_sem] <;> rfl) (by simp only [go_sem, hfr, g1, hf, Bool.not_true, htt, hz, hui, hs, hny, hfo2, g9] <;> rfl) (by simp only [go_sem] <;> rfl) ?_
    refine Run.op (by simp only [go_sem, hfr, g1, hf, Bool.not_true, htt, hz, hui, hs, hny, hfo2, g9] <;> rfl) (by simp only [go_sem] <;> rfl) ?_
    refine Run.op (by simp only [go_sem] <;> rfl) (by simp only [go_sem] <;> rfl) ?_
    refine Run.nil ?_
    refine BlkK.nrm ?_
    refine Exec.reg1 ?_
    refine Run.op (by simp only [go_sem] <;> rfl) (by simp only [go_sem] <;> rfl) ?_
    refine Run.op (by simp only [go_sem, hfr, g1, hf, Bool.not_true, htt, hz, hui, hs, hny, hfo2, g9]; (try simp (disch := omega) only [IntWalk.i64_in, IntWalk.u64_in, if_neg, if_pos])<;> rfl) (by simp only [go_sem] <;> rfl) ?_
    refine Run.op (by simp only [go_sem] <;> rfl) (by simp only [go_sem] <;> rfl) ?_
    refine Run.nil ?_
    refine ForK.nxt ?_ ?_ ?_
    · omega
    · exact Ghost.kp [0, 1, 2, 9, 15, 16, 17] [] (by simp only [go_sem, hfr, g1, hf, Bool.not_true, htt, hz, hui, hs, hny, hfo2, g9]; first | ((repeat' (first | with_reducible_and_instances rfl | refine st_eq ?_ ?_ ?_ | refine ret_eq ?_ | refine tup_eq ?_ | refine tm_eq ?_ ?_ | refine arr_eq ?_ | refine cells_eq ?_ | refine val_eq ?_ | refine ls_eq ?_ ?_ | refine own_eq ?_ ?_ | refine sl_eq ?_ | refine b_eq ?_ | (refine i_eq ?_; omega))); (all_goals (simp_all))) | rfl)
    · trivial
  have hke : k = (fitL fs m).length := by have := ge_of_dec hb175; omega
  subst hke
  have hfi := fit_in (t := tt) hf hm (by omega)
  rw [e1] at hfi
  refine Exec.exitS ?_
  refine ForK.ext ?_
  refine BlkK.hit ?_
  refine Exec.assocS ?_
  refine Exec.reg ?_
  iterate 4 (refine Run.op (by simp only [go_sem] <;> rfl) (by simp only [go_sem] <;> rfl) ?_)
  refine Run.cal (c_meterworksref02_Fits fs tt m hl6 hfs (by omega) hm) (by simp only [go_sem]) (by simp only [go_sem, hfr, g1, hf, Bool.not_true, htt, hz, hui, List.take_length, hfi] <;> rfl) (by exact ⟨by first | exact WkR.pure rfl | exact WkR.nil _ | exact WkR.int (by first | omega | (simp; done) | (simp; omega)), by first | exact WkR.pure rfl | exact WkR.nil _ | exact WkR.int (by first | omega | (simp; done) | (simp; omega)), by first | exact WkR.pure rfl | exact WkR.nil _ | exact WkR.int (by first | omega | (simp; done) | (simp; omega)), trivial⟩) (fr0) (by simp only [go_sem, hfr, g1, hf, Bool.not_true, htt, hz, hui, List.take_length, hfi] <;> rfl) ?_
  refine Run.op (by simp only [go_sem, hfr, g1, hf, Bool.not_true, htt, hz, hui, List.take_length, hfi] <;> rfl) (by simp only [go_sem] <;> rfl) ?_
  refine Run.nil ?_
  refine Exec.cndS (by simp only [go_sem, hfr, g1, hf, Bool.not_true, htt, hz, hui, List.take_length, hfi] <;> rfl) (fun hb202 => ?_) (fun hb202 => ?_)
  · exact absurd hb202 (by simp)
  refine Exec.skipS ?_
  refine Exec.assocS ?_
  by_cases hm1 : more < m
  · skip
    have g10 : decide (more < m) = true := decide_eq_true hm1
    refine Exec.reg ?_
    iterate 2 (refine Run.op (by simp only [go_sem] <;> rfl) (by simp only [go_sem] <;> rfl) ?_)
    iterate 2 (refine Run.op (by simp only [go_sem, hfr, g1, hf, Bool.not_true, htt, hz, hui, List.take_length, hfi, g10] <;> rfl) (by simp only [go_sem] <;> rfl) ?_)
    iterate 2 (refine Run.skp (by simp only [go_sem] <;> rfl) (by simp only [go_sem] <;> rfl) ?_)
    refine Run.op (by simp only [go_sem, hfr, g1, hf, Bool.not_true, htt, hz, hui, List.take_length, hfi, g10] <;> rfl) (by simp only [go_sem] <;> rfl) ?_
    refine Run.nil ?_
    refine Exec.cndS (by simp only [go_sem, hfr, g1, hf, Bool.not_true, htt, hz, hui, List.take_length, hfi, g10] <;> rfl) (fun hb209 => ?_) (fun hb209 => ?_)
    · skip
      refine Exec.assocS ?_
      refine Exec.reg ?_
      refine Run.cal (c_law_awake) (by simp only [go_sem]) (by simp only [go_sem, hfr, g1, hf, Bool.not_true, htt, hz, hui, List.take_length, hfi, g10] <;> rfl) (by exact trivial) (fr0) (by simp only [go_sem, hfr, g1, hf, Bool.not_true, htt, hz, hui, List.take_length, hfi, g10] <;> rfl) ?_
      refine Run.op (by simp only [go_sem] <;> rfl) (by simp only [go_sem] <;> rfl) ?_
      refine Run.nil ?_
      refine Exec.retS ?_
      exact Ends.fin [] (rs := [.tmp 8]) rfl (by simp only [go_sem, hfr, g1, hf, Bool.not_true, htt, hz, hui, List.take_length, hfi, g10] <;> rfl) (by simp only [go_sem, hfr, g1, hf, Bool.not_true, htt, hz, hui, List.take_length, hfi, g10] <;> first | rfl | ((repeat' (first | with_reducible_and_instances rfl | refine st_eq ?_ ?_ ?_ | refine ret_eq ?_ | refine tup_eq ?_ | refine tm_eq ?_ ?_ | refine arr_eq ?_ | refine cells_eq ?_ | refine val_eq ?_ | refine ls_eq ?_ ?_ | refine own_eq ?_ ?_ | refine sl_eq ?_ | refine b_eq ?_ | (refine i_eq ?_; omega))); done))
    · exact absurd hb209 (by simp)
  have g10 : decide (more < m) = false := decide_eq_false hm1
  refine Exec.reg ?_
  iterate 2 (refine Run.op (by simp only [go_sem] <;> rfl) (by simp only [go_sem] <;> rfl) ?_)
  iterate 2 (refine Run.op (by simp only [go_sem, hfr, g1, hf, Bool.not_true, htt, hz, hui, List.take_length, hfi, g10] <;> rfl) (by simp only [go_sem] <;> rfl) ?_)
  refine Run.yes (by simp only [go_sem] <;> rfl) (by simp only [go_sem] <;> rfl) (by simp only [go_sem] <;> rfl) ?_
  refine Run.yes (by simp only [go_sem] <;> rfl) (by simp only [go_sem, hfr, g1, hf, Bool.not_true, htt, hz, hui, List.take_length, hfi, g10] <;> rfl) (by simp only [go_sem] <;> rfl) ?_
  refine Run.op (by simp only [go_sem, hfr, g1, hf, Bool.not_true, htt, hz, hui, List.take_length, hfi, g10] <;> rfl) (by simp only [go_sem] <;> rfl) ?_
  refine Run.nil ?_
  refine Exec.cndS (by simp only [go_sem, hfr, g1, hf, Bool.not_true, htt, hz, hui, List.take_length, hfi, g10] <;> rfl) (fun hb209 => ?_) (fun hb209 => ?_)
  · skip
    refine Exec.assocS ?_
    refine Exec.reg ?_
    refine Run.cal (c_law_awake) (by simp only [go_sem]) (by simp only [go_sem, hfr, g1, hf, Bool.not_true, htt, hz, hui, List.take_length, hfi, g10] <;> rfl) (by exact trivial) (fr0) (by simp only [go_sem, hfr, g1, hf, Bool.not_true, htt, hz, hui, List.take_length, hfi, g10] <;> rfl) ?_
    refine Run.op (by simp only [go_sem] <;> rfl) (by simp only [go_sem] <;> rfl) ?_
    refine Run.nil ?_
    refine Exec.retS ?_
    exact Ends.fin [] (rs := [.tmp 8]) rfl (by simp only [go_sem, hfr, g1, hf, Bool.not_true, htt, hz, hui, List.take_length, hfi, g10] <;> rfl) (by simp only [go_sem, hfr, g1, hf, Bool.not_true, htt, hz, hui, List.take_length, hfi, g10] <;> first | rfl | ((repeat' (first | with_reducible_and_instances rfl | refine st_eq ?_ ?_ ?_ | refine ret_eq ?_ | refine tup_eq ?_ | refine tm_eq ?_ ?_ | refine arr_eq ?_ | refine cells_eq ?_ | refine val_eq ?_ | refine ls_eq ?_ ?_ | refine own_eq ?_ ?_ | refine sl_eq ?_ | refine b_eq ?_ | (refine i_eq ?_; omega))); done))
  have hmo : ¬ more > 999 := of_decide_eq_false hb209
  obtain ⟨w1, w2⟩ := fit_wide h0 (n := more) (by omega) (by omega)
  rw [e1] at w2
  obtain ⟨lM, hlM⟩ : ∃ l, (fitR fs more).1 = l := ⟨_, rfl⟩
  rw [hlM] at w2
  have hfr2 : fitR fs more = (lM, 0) := Prod.ext hlM w1
  have hMl : lM.length ≤ 100 := by have := len_fit fs more; rw [hlM] at this; exact this
  refine Exec.skipS ?_
  refine Exec.reg ?_
  iterate 2 (refine Run.op (by simp only [go_sem] <;> rfl) (by simp only [go_sem] <;> rfl) ?_)
  refine Run.cal (c_drum_Fit fs more hl) (by simp only [go_sem]) (by simp only [go_sem, hfr, g1, hf, Bool.not_true, htt, hz, hui, List.take_length, hfi, g10, hfr2] <;> rfl) (by exact ⟨by first | exact WkR.pure rfl | exact WkR.nil _ | exact WkR.int (by first | omega | (simp; done) | (simp; omega)), by first | exact WkR.pure rfl | exact WkR.nil _ | exact WkR.int (by first | omega | (simp; done) | (simp; omega)), trivial⟩) (fr0) (by simp only [go_sem, hfr, g1, hf, Bool.not_true, htt, hz, hui, List.take_length, hfi, g10, hfr2] <;> rfl) ?_
  refine Run.op (by simp only [go_sem] <;> rfl) (by simp only [go_sem] <;> rfl) ?_
  iterate 2 (refine Run.op (by simp only [go_sem, hfr, g1, hf, Bool.not_true, htt, hz, hui, List.take_length, hfi, g10, hfr2] <;> rfl) (by simp only [go_sem] <;> rfl) ?_)
  iterate 2 (refine Run.op (by simp only [go_sem] <;> rfl) (by simp only [go_sem] <;> rfl) ?_)
  refine Run.nil ?_
  refine Exec.assocS ?_
  refine Exec.reg ?_
  refine Run.op (by simp only [go_sem] <;> rfl) (by simp only [go_sem] <;> rfl) ?_
  refine Run.op (by simp only [go_sem, hfr, g1, hf, Bool.not_true, htt, hz, hui, List.take_length, hfi, g10, hfr2] <;> rfl) (by simp only [go_sem] <;> rfl) ?_
  refine Run.nil ?_
  refine Exec.cndS (by simp only [go_sem, hfr, g1, hf, Bool.not_true, htt, hz, hui, List.take_length, hfi, g10, hfr2] <;> rfl) (fun hb218 => ?_) (fun hb218 => ?_)
  · exact absurd hb218 (by simp)
  refine Exec.skipS ?_
  refine Exec.assocS ?_
  refine Exec.reg ?_
  refine Run.op (by simp only [go_sem] <;> rfl) (by simp only [go_sem] <;> rfl) ?_
  refine Run.nil ?_
  refine Exec.blk ?_
  refine Exec.forA [9, 18, 20] [] ((fitL fs m).length) (fun k => [.slot 20 (.int k)]) (fun _ => True) (fun k => by simp only [go_sem] <;> rfl) (by simp only [go_sem, hfr, g1, hf, Bool.not_true, htt, hz, hui, List.take_length, hfi, g10, hfr2] <;> rfl) ?_ (fun k hk hX => ?_)
  · trivial
  refine Exec.assocS ?_
  refine Exec.reg ?_
  iterate 2 (refine Run.op (by simp only [go_sem] <;> rfl) (by simp only [go_sem] <;> rfl) ?_)
  iterate 2 (refine Run.op (by simp only [go_sem, hfr, g1, hf, Bool.not_true, htt, hz, hui, List.take_length, hfi, g10, hfr2] <;> rfl) (by simp only [go_sem] <;> rfl) ?_)
  refine Run.nil ?_
  refine Exec.cndS (by simp only [go_sem, hfr, g1, hf, Bool.not_true, htt, hz, hui, List.take_length, hfi, g10, hfr2] <;> rfl) (fun hb222 => ?_) (fun hb222 => ?_)
  · skip
    have hlt := lt_of_dec hb222
    obtain ⟨s, hs⟩ : ∃ s, (fitL fs m)[k]? = some s := ⟨_, List.getElem?_eq_getElem hlt⟩
    have hw := w2 s (List.mem_of_getElem? hs)
    refine Exec.skipS ?_
    refine Exec.blk ?_
    refine Exec.reg ?_
    refine Run.op (by simp only [go_sem] <;> rfl) (by simp only [go_sem] <;> rfl) ?_
    refine Run.nil ?_
    refine Exec.assocS ?_
    refine Exec.reg ?_
    refine Run.op (by simp only [go_sem] <;> rfl) (by simp only [go_sem] <;> rfl) ?_
    refine Run.nil ?_
    refine Exec.blk ?_
    refine Exec.forA [9, 18, 20, 21, 22] [] (lM.length) (fun j => [.slot 22 (.int j), .slot 21 (.bool ((lM.take j).any (fun q => decide (q.lo ≤ s.lo) && decide (s.hi ≤ q.hi))))]) (fun _ => True) (fun j => by simp only [go_sem] <;> rfl) (by simp only [go_sem, hfr, g1, hf, Bool.not_true, htt, hz, hui, List.take_length, hfi, g10, hfr2, hs, List.take_zero, List.any_nil, Int.natCast_zero] <;> rfl) ?_ (fun j hj Xj => ?_)
    · trivial
    refine Exec.assocS ?_
    refine Exec.reg ?_
    iterate 2 (refine Run.op (by simp only [go_sem] <;> rfl) (by simp only [go_sem] <;> rfl) ?_)
    iterate 2 (refine Run.op (by simp only [go_sem, hfr, g1, hf, Bool.not_true, htt, hz, hui, List.take_length, hfi, g10, hfr2, hs] <;> rfl) (by simp only [go_sem] <;> rfl) ?_)
    refine Run.nil ?_
    refine Exec.cndS (by simp only [go_sem, hfr, g1, hf, Bool.not_true, htt, hz, hui, List.take_length, hfi, g10, hfr2, hs] <;> rfl) (fun hb228 => ?_) (fun hb228 => ?_)
    · skip
      have hlt2 := lt_of_dec hb228
      obtain ⟨q, hq⟩ : ∃ q, lM[j]? = some q := ⟨_, List.getElem?_eq_getElem hlt2⟩
      have hny := any_takeS (p := fun q => decide (q.lo ≤ s.lo) && decide (s.hi ≤ q.hi)) hq
      refine Exec.skipS ?_
      refine Exec.blk ?_
      by_cases hfo : (lM.take j).any (fun q => decide (q.lo ≤ s.lo) && decide (s.hi ≤ q.hi)) = true
      · skip
        refine Exec.opk1 30 ?_
        refine OpenK.op (by simp only [go_sem] <;> rfl) (by simp only [go_sem] <;> rfl) (by simp only [go_sem] <;> rfl) ?_
        refine OpenK.op (by simp only [go_sem, hfr, g1, hf, Bool.not_true, htt, hz, hui, List.take_length, hfi, g10, hfr2, hs, hq, hny, hfo] <;> rfl) (by simp only [go_sem] <;> rfl) (by simp only [go_sem] <;> rfl) ?_
        iterate 24 (refine OpenK.skp (by simp only [go_sem] <;> rfl) (by simp only [go_sem] <;> rfl) (by simp only [go_sem] <;> rfl) ?_)
        refine OpenK.op (by simp only [go_sem, hfr, g1, hf, Bool.not_true, htt, hz, hui, List.take_length, hfi, g10, hfr2, hs, hq, hny, hfo] <;> rfl) (by simp only [go_sem] <;> rfl) (by simp only [go_sem] <;> rfl) ?_
        refine OpenK.op (by simp only [go_sem] <;> rfl) (by simp only [go_sem] <;> rfl) (by simp only [go_sem] <;> rfl) ?_
        refine OpenK.nil (OpenE.finT (by kernel_rfl) (by kernel_rfl) (by kernel_rfl) ?_)
        refine BlkK.nrm ?_
        refine Exec.reg1 ?_
        refine Run.op (by simp only [go_sem] <;> rfl) (by simp only [go_sem] <;> rfl) ?_
        refine Run.op (by simp only [go_sem, hfr, g1, hf, Bool.not_true, htt, hz, hui, List.take_length, hfi, g10, hfr2, hs, hq, hny, hfo]; (try simp (disch := omega) only [IntWalk.i64_in, IntWalk.u64_in, if_neg, if_pos])<;> rfl) (by simp only [go_sem] <;> rfl) ?_
        refine Run.op (by simp only [go_sem] <;> rfl) (by simp only [go_sem] <;> rfl) ?_
        refine Run.nil ?_
        refine ForK.nxt ?_ ?_ ?_
        · omega
        · exact Ghost.kp [9, 18, 20, 21, 22] [] (by simp only [go_sem, hfr, g1, hf, Bool.not_true, htt, hz, hui, List.take_length, hfi, g10, hfr2, hs, hq, hny, hfo]; first | ((repeat' (first | with_reducible_and_instances rfl | refine st_eq ?_ ?_ ?_ | refine ret_eq ?_ | refine tup_eq ?_ | refine tm_eq ?_ ?_ | refine arr_eq ?_ | refine cells_eq ?_ | refine val_eq ?_ | refine ls_eq ?_ ?_ | refine own_eq ?_ ?_ | refine sl_eq ?_ | refine b_eq ?_ | (refine i_eq ?_; omega))); (all_goals (simp_all))) | rfl)
        · trivial
      have hfo2 : (lM.take j).any (fun q => decide (q.lo ≤ s.lo) && decide (s.hi ≤ q.hi)) = false := by simpa using hfo
      by_cases hll : q.lo ≤ s.lo
      · skip
        have g9 : decide (q.lo ≤ s.lo) = true := decide_eq_true hll
        refine Exec.opk1 30 ?_
        refine OpenK.op (by simp only [go_sem] <;> rfl) (by simp only [go_sem] <;> rfl) (by simp only [go_sem] <;> rfl) ?_
        refine OpenK.op (by simp only [go_sem, hfr, g1, hf, Bool.not_true, htt, hz, hui, List.take_length, hfi, g10, hfr2, hs, hq, hny, hfo2, g9] <;> rfl) (by simp only [go_sem] <;> rfl) (by simp only [go_sem] <;> rfl) ?_
        iterate 2 (refine OpenK.yes (by simp only [go_sem] <;> rfl) (by simp only [go_sem] <;> rfl) (by simp only [go_sem] <;> rfl) (by simp only [go_sem] <;> rfl) ?_)
        refine OpenK.yes (by simp only [go_sem] <;> rfl) (by simp only [go_sem, hfr, g1, hf, Bool.not_true, htt, hz, hui, List.take_length, hfi, g10, hfr2, hs, hq, hny, hfo2, g9]; (try simp (disch := omega) only [if_pos]); (try simp only [go_sem, hfr, g1, hf, Bool.not_true, htt, hz, hui, List.take_length, hfi, g10, hfr2, hs, hq, hny, hfo2, g9])<;> rfl) (by simp only [go_sem] <;> rfl) (by simp only [go_sem] <;> rfl) ?_
        refine OpenK.yes (by simp only [go_sem] <;> rfl) (by simp only [go_sem] <;> rfl) (by simp only [go_sem] <;> rfl) (by simp only [go_sem] <;> rfl) ?_
        refine OpenK.yes (by simp only [go_sem] <;> rfl) (by simp only [go_sem, hfr, g1, hf, Bool.not_true, htt, hz, hui, List.take_length, hfi, g10, hfr2, hs, hq, hny, hfo2, g9] <;> rfl) (by simp only [go_sem] <;> rfl) (by simp only [go_sem] <;> rfl) ?_
        iterate 2 (refine OpenK.yes (by simp only [go_sem] <;> rfl) (by simp only [go_sem] <;> rfl) (by simp only [go_sem] <;> rfl) (by simp only [go_sem] <;> rfl) ?_)
        refine OpenK.yes (by simp only [go_sem] <;> rfl) (by simp only [go_sem, hfr, g1, hf, Bool.not_true, htt, hz, hui, List.take_length, hfi, g10, hfr2, hs, hq, hny, hfo2, g9]; (try simp (disch := omega) only [if_pos]); (try simp only [go_sem, hfr, g1, hf, Bool.not_true, htt, hz, hui, List.take_length, hfi, g10, hfr2, hs, hq, hny, hfo2, g9])<;> rfl) (by simp only [go_sem] <;> rfl) (by simp only [go_sem] <;> rfl) ?_
        refine OpenK.yes (by simp only [go_sem] <;> rfl) (by simp only [go_sem] <;> rfl) (by simp only [go_sem] <;> rfl) (by simp only [go_sem] <;> rfl) ?_
        iterate 3 (refine OpenK.yes (by simp only [go_sem] <;> rfl) (by simp only [go_sem, hfr, g1, hf, Bool.not_true, htt, hz, hui, List.take_length, hfi, g10, hfr2, hs, hq, hny, hfo2, g9] <;> rfl) (by simp only [go_sem] <;> rfl) (by simp only [go_sem] <;> rfl) ?_)
        iterate 2 (refine OpenK.yes (by simp only [go_sem] <;> rfl) (by simp only [go_sem] <;> rfl) (by simp only [go_sem] <;> rfl) (by simp only [go_sem] <;> rfl) ?_)
        refine OpenK.yes (by simp only [go_sem] <;> rfl) (by simp only [go_sem, hfr, g1, hf, Bool.not_true, htt, hz, hui, List.take_length, hfi, g10, hfr2, hs, hq, hny, hfo2, g9]; (try simp (disch := omega) only [if_pos]); (try simp only [go_sem, hfr, g1, hf, Bool.not_true, htt, hz, hui, List.take_length, hfi, g10, hfr2, hs, hq, hny, hfo2, g9])<;> rfl) (by simp only [go_sem] <;> rfl) (by simp only [go_sem] <;> rfl) ?_
        refine OpenK.yes (by simp only [go_sem] <;> rfl) (by simp only [go_sem] <;> rfl) (by simp only [go_sem] <;> rfl) (by simp only [go_sem] <;> rfl) ?_
        refine OpenK.yes (by simp only [go_sem] <;> rfl) (by simp only [go_sem, hfr, g1, hf, Bool.not_true, htt, hz, hui, List.take_length, hfi, g10, hfr2, hs, hq, hny, hfo2, g9] <;> rfl) (by simp only [go_sem] <;> rfl) (by simp only [go_sem] <;> rfl) ?_
        iterate 2 (refine OpenK.yes (by simp only [go_sem] <;> rfl) (by simp only [go_sem] <;> rfl) (by simp only [go_sem] <;> rfl) (by simp only [go_sem] <;> rfl) ?_)
        refine OpenK.yes (by simp only [go_sem] <;> rfl) (by simp only [go_sem, hfr, g1, hf, Bool.not_true, htt, hz, hui, List.take_length, hfi, g10, hfr2, hs, hq, hny, hfo2, g9]; (try simp (disch := omega) only [if_pos]); (try simp only [go_sem, hfr, g1, hf, Bool.not_true, htt, hz, hui, List.take_length, hfi, g10, hfr2, hs, hq, hny, hfo2, g9])<;> rfl) (by simp only [go_sem] <;> rfl) (by simp only [go_sem] <;> rfl) ?_
        refine OpenK.yes (by simp only [go_sem] <;> rfl) (by simp only [go_sem] <;> rfl) (by simp only [go_sem] <;> rfl) (by simp only [go_sem] <;> rfl) ?_
        iterate 3 (refine OpenK.yes (by simp only [go_sem] <;> rfl) (by simp only [go_sem, hfr, g1, hf, Bool.not_true, htt, hz, hui, List.take_length, hfi, g10, hfr2, hs, hq, hny, hfo2, g9] <;> rfl) (by simp only [go_sem] <;> rfl) (by simp only [go_sem] <;> rfl) ?_)
        refine OpenK.op (by simp only [go_sem, hfr, g1, hf, Bool.not_true, htt, hz, hui, List.take_length, hfi, g10, hfr2, hs, hq, hny, hfo2, g9] <;> rfl) (by simp only [go_sem] <;> rfl) (by simp only [go_sem] <;> rfl) ?_
        refine OpenK.op (by simp only [go_sem] <;> rfl) (by simp only [go_sem] <;> rfl) (by simp only [go_sem] <;> rfl) ?_
        refine OpenK.nil (OpenE.finT (by kernel_rfl) (by kernel_rfl) (by kernel_rfl) ?_)
        refine BlkK.nrm ?_
        refine Exec.reg1 ?_
        refine Run.op (by simp only [go_sem] <;> rfl) (by simp only [go_sem] <;> rfl) ?_
        refine Run.op (by simp only [go_sem, hfr, g1, hf, Bool.not_true, htt, hz, hui, List.take_length, hfi, g10, hfr2, hs, hq, hny, hfo2, g9]; (try simp (disch := omega) only [IntWalk.i64_in, IntWalk.u64_in, if_neg, if_pos])<;> rfl) (by simp only [go_sem] <;> rfl) ?_
        refine Run.op (by simp only [go_sem] <;> rfl) (by simp only [go_sem] <;> rfl) ?_
        refine Run.nil ?_
        refine ForK.nxt ?_ ?_ ?_
        · omega
        · exact Ghost.kp [9, 18, 20, 21, 22] [] (by simp only [go_sem, hfr, g1, hf, Bool.not_true, htt, hz, hui, List.take_length, hfi, g10, hfr2, hs, hq, hny, hfo2, g9]; first | ((repeat' (first | with_reducible_and_instances rfl | refine st_eq ?_ ?_ ?_ | refine ret_eq ?_ | refine tup_eq ?_ | refine tm_eq ?_ ?_ | refine arr_eq ?_ | refine cells_eq ?_ | refine val_eq ?_ | refine ls_eq ?_ ?_ | refine own_eq ?_ ?_ | refine sl_eq ?_ | refine b_eq ?_ | (refine i_eq ?_; omega))); (all_goals (simp_all))) | rfl)
        · trivial
      have g9 : decide (q.lo ≤ s.lo) = false := decide_eq_false hll
      refine Exec.opk1 30 ?_
      refine OpenK.op (by simp only [go_sem] <;> rfl) (by simp only [go_sem] <;> rfl) (by simp only [go_sem] <;> rfl) ?_
      refine OpenK.op (by simp only [go_sem, hfr, g1, hf, Bool.not_true, htt, hz, hui, List.take_length, hfi, g10, hfr2, hs, hq, hny, hfo2, g9] <;> rfl) (by simp only [go_sem] <;> rfl) (by simp only [go_sem] <;> rfl) ?_
      iterate 2 (refine OpenK.yes (by simp only [go_sem] <;> rfl) (by simp only [go_sem] <;> rfl) (by simp only [go_sem] <;> rfl) (by simp only [go_sem] <;> rfl) ?_)
      refine OpenK.yes (by simp only [go_sem] <;> rfl) (by simp only [go_sem, hfr, g1, hf, Bool.not_true, htt, hz, hui, List.take_length, hfi, g10, hfr2, hs, hq, hny, hfo2, g9]; (try simp (disch := omega) only [if_pos]); (try simp only [go_sem, hfr, g1, hf, Bool.not_true, htt, hz, hui, List.take_length, hfi, g10, hfr2, hs, hq, hny, hfo2, g9])<;> rfl) (by simp only [go_sem] <;> rfl) (by simp only [go_sem] <;> rfl) ?_
      refine OpenK.yes (by simp only [go_sem] <;> rfl) (by simp only [go_sem] <;> rfl) (by simp only [go_sem] <;> rfl) (by simp only [go_sem] <;> rfl) ?_
      refine OpenK.yes (by simp only [go_sem] <;> rfl) (by simp only [go_sem, hfr, g1, hf, Bool.not_true, htt, hz, hui, List.take_length, hfi, g10, hfr2, hs, hq, hny, hfo2, g9] <;> rfl) (by simp only [go_sem] <;> rfl) (by simp only [go_sem] <;> rfl) ?_
      iterate 2 (refine OpenK.yes (by simp only [go_sem] <;> rfl) (by simp only [go_sem] <;> rfl) (by simp only [go_sem] <;> rfl) (by simp only [go_sem] <;> rfl) ?_)
      refine OpenK.yes (by simp only [go_sem] <;> rfl) (by simp only [go_sem, hfr, g1, hf, Bool.not_true, htt, hz, hui, List.take_length, hfi, g10, hfr2, hs, hq, hny, hfo2, g9]; (try simp (disch := omega) only [if_pos]); (try simp only [go_sem, hfr, g1, hf, Bool.not_true, htt, hz, hui, List.take_length, hfi, g10, hfr2, hs, hq, hny, hfo2, g9])<;> rfl) (by simp only [go_sem] <;> rfl) (by simp only [go_sem] <;> rfl) ?_
      refine OpenK.yes (by simp only [go_sem] <;> rfl) (by simp only [go_sem] <;> rfl) (by simp only [go_sem] <;> rfl) (by simp only [go_sem] <;> rfl) ?_
      iterate 3 (refine OpenK.yes (by simp only [go_sem] <;> rfl) (by simp only [go_sem, hfr, g1, hf, Bool.not_true, htt, hz, hui, List.take_length, hfi, g10, hfr2, hs, hq, hny, hfo2, g9] <;> rfl) (by simp only [go_sem] <;> rfl) (by simp only [go_sem] <;> rfl) ?_)
      iterate 11 (refine OpenK.skp (by simp only [go_sem] <;> rfl) (by simp only [go_sem] <;> rfl) (by simp only [go_sem] <;> rfl) ?_)
      refine OpenK.yes (by simp only [go_sem] <;> rfl) (by simp only [go_sem, hfr, g1, hf, Bool.not_true, htt, hz, hui, List.take_length, hfi, g10, hfr2, hs, hq, hny, hfo2, g9] <;> rfl) (by simp only [go_sem] <;> rfl) (by simp only [go_sem] <;> rfl) ?_
      refine OpenK.op (by simp only [go_sem, hfr, g1, hf, Bool.not_true, htt, hz, hui, List.take_length, hfi, g10, hfr2, hs, hq, hny, hfo2, g9] <;> rfl) (by simp only [go_sem] <;> rfl) (by simp only [go_sem] <;> rfl) ?_
      refine OpenK.op (by simp only [go_sem] <;> rfl) (by simp only [go_sem] <;> rfl) (by simp only [go_sem] <;> rfl) ?_
      refine OpenK.nil (OpenE.finT (by kernel_rfl) (by kernel_rfl) (by kernel_rfl) ?_)
      refine BlkK.nrm ?_
      refine Exec.reg1 ?_
      refine Run.op (by simp only [go_sem] <;> rfl) (by simp only [go_sem] <;> rfl) ?_
      refine Run.op (by simp only [go_sem, hfr, g1, hf, Bool.not_true, htt, hz, hui, List.take_length, hfi, g10, hfr2, hs, hq, hny, hfo2, g9]; (try simp (disch := omega) only [IntWalk.i64_in, IntWalk.u64_in, if_neg, if_pos])<;> rfl) (by simp only [go_sem] <;> rfl) ?_
      refine Run.op (by simp only [go_sem] <;> rfl) (by simp only [go_sem] <;> rfl) ?_
      refine Run.nil ?_
      refine ForK.nxt ?_ ?_ ?_
      · omega
      · exact Ghost.kp [9, 18, 20, 21, 22] [] (by simp only [go_sem, hfr, g1, hf, Bool.not_true, htt, hz, hui, List.take_length, hfi, g10, hfr2, hs, hq, hny, hfo2, g9]; first | ((repeat' (first | with_reducible_and_instances rfl | refine st_eq ?_ ?_ ?_ | refine ret_eq ?_ | refine tup_eq ?_ | refine tm_eq ?_ ?_ | refine arr_eq ?_ | refine cells_eq ?_ | refine val_eq ?_ | refine ls_eq ?_ ?_ | refine own_eq ?_ ?_ | refine sl_eq ?_ | refine b_eq ?_ | (refine i_eq ?_; omega))); (all_goals (simp_all))) | rfl)
      · trivial
    have hje : j = lM.length := by have := ge_of_dec hb228; omega
    subst hje
    refine Exec.exitS ?_
    refine ForK.ext ?_
    refine BlkK.hit ?_
    refine Exec.reg ?_
    refine Run.op (by simp only [go_sem] <;> rfl) (by simp only [go_sem] <;> rfl) ?_
    refine Run.op (by simp only [go_sem, hfr, g1, hf, Bool.not_true, htt, hz, hui, List.take_length, hfi, g10, hfr2, hs, List.take_length, hw, Bool.not_true] <;> rfl) (by simp only [go_sem] <;> rfl) ?_
    refine Run.nil ?_
    refine Exec.cnd (by simp only [go_sem, hfr, g1, hf, Bool.not_true, htt, hz, hui, List.take_length, hfi, g10, hfr2, hs, List.take_length, hw, Bool.not_true] <;> rfl) (fun hb259 => ?_) (fun hb259 => ?_)
    · exact absurd hb259 (by simp)
    refine BlkK.nrm ?_
    refine Exec.reg1 ?_
    refine Run.op (by simp only [go_sem] <;> rfl) (by simp only [go_sem] <;> rfl) ?_
    refine Run.op (by simp only [go_sem, hfr, g1, hf, Bool.not_true, htt, hz, hui, List.take_length, hfi, g10, hfr2, hs, List.take_length, hw, Bool.not_true]; (try simp (disch := omega) only [IntWalk.i64_in, IntWalk.u64_in, if_neg, if_pos])<;> rfl) (by simp only [go_sem] <;> rfl) ?_
    refine Run.op (by simp only [go_sem] <;> rfl) (by simp only [go_sem] <;> rfl) ?_
    refine Run.nil ?_
    refine ForK.nxt ?_ ?_ ?_
    · omega
    · exact Ghost.kp [9, 18, 20] [] (by simp only [go_sem, hfr, g1, hf, Bool.not_true, htt, hz, hui, List.take_length, hfi, g10, hfr2, hs, List.take_length, hw, Bool.not_true]; first | ((repeat' (first | with_reducible_and_instances rfl | refine st_eq ?_ ?_ ?_ | refine ret_eq ?_ | refine tup_eq ?_ | refine tm_eq ?_ ?_ | refine arr_eq ?_ | refine cells_eq ?_ | refine val_eq ?_ | refine ls_eq ?_ ?_ | refine own_eq ?_ ?_ | refine sl_eq ?_ | refine b_eq ?_ | (refine i_eq ?_; omega))); done) | rfl)
    · trivial
  refine Exec.exitS ?_
  refine ForK.ext ?_
  refine BlkK.hit ?_
  refine Exec.reg ?_
  refine Run.cal (c_law_awake) (by simp only [go_sem]) (by simp only [go_sem, hfr, g1, hf, Bool.not_true, htt, hz, hui, List.take_length, hfi, g10, hfr2] <;> rfl) (by exact trivial) (fr0) (by simp only [go_sem, hfr, g1, hf, Bool.not_true, htt, hz, hui, List.take_length, hfi, g10, hfr2] <;> rfl) ?_
  refine Run.op (by simp only [go_sem] <;> rfl) (by simp only [go_sem] <;> rfl) ?_
  refine Run.nil ?_
  exact Ends.fin [] (rs := [.tmp 8]) rfl (by simp only [go_sem, hfr, g1, hf, Bool.not_true, htt, hz, hui, List.take_length, hfi, g10, hfr2] <;> rfl) (by simp only [go_sem, hfr, g1, hf, Bool.not_true, htt, hz, hui, List.take_length, hfi, g10, hfr2] <;> first | rfl | ((repeat' (first | with_reducible_and_instances rfl | refine st_eq ?_ ?_ ?_ | refine ret_eq ?_ | refine tup_eq ?_ | refine tm_eq ?_ ?_ | refine arr_eq ?_ | refine cells_eq ?_ | refine val_eq ?_ | refine ls_eq ?_ ?_ | refine own_eq ?_ ?_ | refine sl_eq ?_ | refine b_eq ?_ | (refine i_eq ?_; omega))); done))

end Go.Mw
namespace Go.Mw
open Go.RowKit Go.ChangeShapes Go.WideShapes
section
variable {H : Type} {enc : TypeId × Value → H} {P : Program} {w : World} {base : Nat} {spare : Nat → Bool} {held : Bool} {v : Value} {d : DataW H} {ps : List MemPlace} {t : TypeId}
theorem u32_read {b0 : Nat} {r : Reach} (ht : P.underlying t = some (.int .u32)) (hv : Value.okWide P w r b0 t v) (h : DataW.Trod enc P w base spare held t v d ps) :
    ∃ n : Nat, n ≤ 4294967295 ∧ RepV (fun b _ => b < w.heap.size) noVal (look []) w (.leaf (.d (.raw (.int .u32 (n : Int))))) v := by
  obtain ⟨n, hw, hr⟩ := int_read ht hv h
  have h2 : 0 ≤ n ∧ n ≤ 4294967295 := by
    simp only [Lit.wf, Bool.and_eq_true, decide_eq_true_eq] at hw
    have e1 : IntKind.u32.min = 0 := by decide
    have e2 : IntKind.u32.max = 4294967295 := by decide
    omega
  refine ⟨n.toNat, by omega, ?_⟩
  rw [show ((n.toNat : Nat) : Int) = n by omega]
  exact hr
theorem u16_read {b0 : Nat} {r : Reach} (ht : P.underlying t = some (.int .u16)) (hv : Value.okWide P w r b0 t v) (h : DataW.Trod enc P w base spare held t v d ps) :
    ∃ n : Nat, n ≤ 65535 ∧ RepV (fun b _ => b < w.heap.size) noVal (look []) w (.leaf (.d (.raw (.int .u16 (n : Int))))) v := by
  obtain ⟨n, hw, hr⟩ := int_read ht hv h
  have h2 : 0 ≤ n ∧ n ≤ 65535 := by
    simp only [Lit.wf, Bool.and_eq_true, decide_eq_true_eq] at hw
    have e1 : IntKind.u16.min = 0 := by decide
    have e2 : IntKind.u16.max = 65535 := by decide
    omega
  refine ⟨n.toNat, by omega, ?_⟩
  rw [show ((n.toNat : Nat) : Int) = n by omega]
  exact hr
end
end Go.Mw

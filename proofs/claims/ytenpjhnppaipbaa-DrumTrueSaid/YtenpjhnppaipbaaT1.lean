/- The statements about the drum: what a reading can stand for, as the document tells it. -/
import Derived.Test.YtenpjhnppaipbaaB10
import Derived.Test.YtenpjhnppaipbaaB3
import Derived.Test.YtenpjhnppaipbaaB4
set_option linter.unusedSimpArgs false
set_option linter.unusedVariables false
set_option linter.unusedSectionVars false
set_option linter.deprecated false
namespace Go.Mw
open Go.Proofs
open Go.Dr
set_option maxRecDepth 20000 in
/-- meterworks/meterworksref02.Within -/
theorem c_meterworksref02_Within (p x m : Int) (hp : 0 ≤ p ∧ p ≤ 9999) (hx : 0 ≤ x ∧ x ≤ 9) (hm : 0 ≤ m ∧ m ≤ 999) : Contract Try.prog 22 [.int p, .int x, .int m] (.bool (withinB p x m)) [] := by
  have e0 : (0 : Int) - m = -m := by omega
  have e : withinB p x m = (inD (p - 1000 * x) (-m) m || inD (p - 1000 * x - 10000) (-m) m) := rfl
  refine con_of follows_mixed Try.func22 rfl (by simp only [List.length_cons, List.length_nil, Try.ntmps22]; omega) (by kernel_rfl) rfl ?_
  refine Exec.reg ?_
  refine Run.op (by simp only [go_sem] <;> rfl) (by simp only [go_sem] <;> rfl) ?_
  refine Run.nil ?_
  by_cases h1 : inD (p - 1000 * x) (-m) m = true
  · skip
    rw [h1, Bool.true_or] at e
    refine Exec.reg ?_
    iterate 2 (refine Run.op (by simp only [go_sem, e0, e, h1] <;> rfl) (by simp only [go_sem] <;> rfl) ?_)
    refine Run.op (by simp only [go_sem, e0, e, h1]; (try simp (disch := omega) only [IntWalk.i64_in, IntWalk.u64_in, if_neg, if_pos])<;> rfl) (by simp only [go_sem] <;> rfl) ?_
    refine Run.op (by simp only [go_sem, e0, e, h1]; (try simp (disch := omega) only [IntWalk.i64_in, IntWalk.u64_in, if_neg, if_pos])<;> rfl) (by simp only [go_sem] <;> rfl) ?_
    refine Run.op (by simp only [go_sem, e0, e, h1] <;> rfl) (by simp only [go_sem] <;> rfl) ?_
    refine Run.op (by simp only [go_sem, e0, e, h1]; (try simp (disch := omega) only [IntWalk.i64_in, IntWalk.u64_in, if_neg, if_pos])<;> rfl) (by simp only [go_sem] <;> rfl) ?_
    refine Run.op (by simp only [go_sem, e0, e, h1] <;> rfl) (by simp only [go_sem] <;> rfl) ?_
    refine Run.cal (c_meterworksref02_in (p - 1000 * x) (-m) m) (by simp only [go_sem]) (by simp only [go_sem, e0, e, h1] <;> rfl) (by exact ⟨by first | exact WkR.pure rfl | exact WkR.nil _ | exact WkR.int (by first | omega | (simp; done) | (simp; omega)), by first | exact WkR.pure rfl | exact WkR.nil _ | exact WkR.int (by first | omega | (simp; done) | (simp; omega)), by first | exact WkR.pure rfl | exact WkR.nil _ | exact WkR.int (by first | omega | (simp; done) | (simp; omega)), trivial⟩) (fr0) (by simp only [go_sem, e0, e, h1] <;> rfl) ?_
    refine Run.op (by simp only [go_sem, e0, e, h1] <;> rfl) (by simp only [go_sem] <;> rfl) ?_
    refine Run.skp (by simp only [go_sem] <;> rfl) (by simp only [go_sem] <;> rfl) ?_
    refine Run.skp (by simp only [go_sem] <;> rfl) (by simp only [go_sem] <;> rfl) ?_
    refine Run.skp (by simp only [go_sem] <;> rfl) (by simp only [go_sem] <;> rfl) ?_
    refine Run.skp (by simp only [go_sem] <;> rfl) (by simp only [go_sem] <;> rfl) ?_
    refine Run.skp (by simp only [go_sem] <;> rfl) (by simp only [go_sem] <;> rfl) ?_
    refine Run.skp (by simp only [go_sem] <;> rfl) (by simp only [go_sem] <;> rfl) ?_
    refine Run.skp (by simp only [go_sem] <;> rfl) (by simp only [go_sem] <;> rfl) ?_
    refine Run.skp (by simp only [go_sem] <;> rfl) (by simp only [go_sem] <;> rfl) ?_
    refine Run.skp (by simp only [go_sem] <;> rfl) (by simp only [go_sem] <;> rfl) ?_
    iterate 2 (refine Run.op (by simp only [go_sem, e0, e, h1] <;> rfl) (by simp only [go_sem] <;> rfl) ?_)
    refine Run.nil ?_
    exact Ends.fin [] (rs := [.tmp 6]) rfl (by simp only [go_sem, e0, e, h1] <;> rfl) (by simp only [go_sem, e0, e, h1] <;> first | rfl | ((repeat' (first | with_reducible_and_instances rfl | refine st_eq ?_ ?_ ?_ | refine ret_eq ?_ | refine tup_eq ?_ | refine tm_eq ?_ ?_ | refine arr_eq ?_ | refine cells_eq ?_ | refine val_eq ?_ | refine ls_eq ?_ ?_ | refine own_eq ?_ ?_ | refine sl_eq ?_ | refine b_eq ?_ | (refine i_eq ?_; omega))); done))
  · skip
    have h2 : inD (p - 1000 * x) (-m) m = false := by simpa using h1
    rw [h2, Bool.false_or] at e
    refine Exec.reg ?_
    iterate 2 (refine Run.op (by simp only [go_sem, e0, e, h2] <;> rfl) (by simp only [go_sem] <;> rfl) ?_)
    refine Run.op (by simp only [go_sem, e0, e, h2]; (try simp (disch := omega) only [IntWalk.i64_in, IntWalk.u64_in, if_neg, if_pos])<;> rfl) (by simp only [go_sem] <;> rfl) ?_
    refine Run.op (by simp only [go_sem, e0, e, h2]; (try simp (disch := omega) only [IntWalk.i64_in, IntWalk.u64_in, if_neg, if_pos])<;> rfl) (by simp only [go_sem] <;> rfl) ?_
    refine Run.op (by simp only [go_sem, e0, e, h2] <;> rfl) (by simp only [go_sem] <;> rfl) ?_
    refine Run.op (by simp only [go_sem, e0, e, h2]; (try simp (disch := omega) only [IntWalk.i64_in, IntWalk.u64_in, if_neg, if_pos])<;> rfl) (by simp only [go_sem] <;> rfl) ?_
    refine Run.op (by simp only [go_sem, e0, e, h2] <;> rfl) (by simp only [go_sem] <;> rfl) ?_
    refine Run.cal (c_meterworksref02_in (p - 1000 * x) (-m) m) (by simp only [go_sem]) (by simp only [go_sem, e0, e, h2] <;> rfl) (by exact ⟨by first | exact WkR.pure rfl | exact WkR.nil _ | exact WkR.int (by first | omega | (simp; done) | (simp; omega)), by first | exact WkR.pure rfl | exact WkR.nil _ | exact WkR.int (by first | omega | (simp; done) | (simp; omega)), by first | exact WkR.pure rfl | exact WkR.nil _ | exact WkR.int (by first | omega | (simp; done) | (simp; omega)), trivial⟩) (fr0) (by simp only [go_sem, e0, e, h2] <;> rfl) ?_
    refine Run.op (by simp only [go_sem, e0, e, h2] <;> rfl) (by simp only [go_sem] <;> rfl) ?_
    refine Run.yes (by simp only [go_sem] <;> rfl) (by simp only [go_sem, e0, e, h2] <;> rfl) (by simp only [go_sem] <;> rfl) ?_
    refine Run.yes (by simp only [go_sem] <;> rfl) (by simp only [go_sem, e0, e, h2] <;> rfl) (by simp only [go_sem] <;> rfl) ?_
    refine Run.yes (by simp only [go_sem] <;> rfl) (by simp only [go_sem, e0, e, h2]; (try simp (disch := omega) only [IntWalk.i64_in, IntWalk.u64_in, if_neg, if_pos])<;> rfl) (by simp only [go_sem] <;> rfl) ?_
    refine Run.yes (by simp only [go_sem] <;> rfl) (by simp only [go_sem, e0, e, h2]; (try simp (disch := omega) only [IntWalk.i64_in, IntWalk.u64_in, if_neg, if_pos])<;> rfl) (by simp only [go_sem] <;> rfl) ?_
    refine Run.yes (by simp only [go_sem] <;> rfl) (by simp only [go_sem, e0, e, h2]; (try simp (disch := omega) only [IntWalk.i64_in, IntWalk.u64_in, if_neg, if_pos])<;> rfl) (by simp only [go_sem] <;> rfl) ?_
    refine Run.yes (by simp only [go_sem] <;> rfl) (by simp only [go_sem, e0, e, h2] <;> rfl) (by simp only [go_sem] <;> rfl) ?_
    refine Run.yes (by simp only [go_sem] <;> rfl) (by simp only [go_sem, e0, e, h2]; (try simp (disch := omega) only [IntWalk.i64_in, IntWalk.u64_in, if_neg, if_pos])<;> rfl) (by simp only [go_sem] <;> rfl) ?_
    refine Run.yes (by simp only [go_sem] <;> rfl) (by simp only [go_sem, e0, e, h2] <;> rfl) (by simp only [go_sem] <;> rfl) ?_
    refine Run.calw (by simp only [go_sem] <;> rfl) (c_meterworksref02_in (p - 1000 * x - 10000) (-m) m) (by simp only [go_sem]) (by simp only [go_sem, e0, e, h2] <;> rfl) (by simp only [go_sem, e0, e, h2] <;> rfl) (by exact ⟨by first | exact WkR.pure rfl | exact WkR.nil _ | exact WkR.int (by first | omega | (simp; done) | (simp; omega)), by first | exact WkR.pure rfl | exact WkR.nil _ | exact WkR.int (by first | omega | (simp; done) | (simp; omega)), by first | exact WkR.pure rfl | exact WkR.nil _ | exact WkR.int (by first | omega | (simp; done) | (simp; omega)), trivial⟩) (fr0) (by simp only [go_sem, e0, e, h2] <;> rfl) ?_
    iterate 2 (refine Run.op (by simp only [go_sem, e0, e, h2] <;> rfl) (by simp only [go_sem] <;> rfl) ?_)
    refine Run.nil ?_
    exact Ends.fin [] (rs := [.tmp 6]) rfl (by simp only [go_sem, e0, e, h2] <;> rfl) (by simp only [go_sem, e0, e, h2] <;> first | rfl | ((repeat' (first | with_reducible_and_instances rfl | refine st_eq ?_ ?_ ?_ | refine ret_eq ?_ | refine tup_eq ?_ | refine tm_eq ?_ ?_ | refine arr_eq ?_ | refine cells_eq ?_ | refine val_eq ?_ | refine ls_eq ?_ ?_ | refine own_eq ?_ ?_ | refine sl_eq ?_ | refine b_eq ?_ | (refine i_eq ?_; omega))); done))

set_option maxRecDepth 20000 in
set_option maxHeartbeats 2000000 in
/-- meterworks/meterworksref02.Fits -/
theorem c_meterworksref02_Fits (fs : List Int) (t m : Int) (hl : fs.length ≤ 6) (hfs : ∀ x ∈ fs, 0 ≤ x ∧ x ≤ 9) (ht : 0 ≤ t ∧ t ≤ 2000000000) (hm : 0 ≤ m ∧ m ≤ 999) : Contract Try.prog 21 [.leaf (.d (intsD fs)), .int t, .int m] (.bool (fitsB fs t m)) [] := by
  refine con_of follows_mixed Try.func21 rfl (by simp only [List.length_cons, List.length_nil, Try.ntmps21]; omega) (by kernel_rfl) rfl ?_
  refine Exec.reg ?_
  refine Run.op (by simp only [go_sem] <;> rfl) (by simp only [go_sem] <;> rfl) ?_
  refine Run.nil ?_
  refine Exec.assocS ?_
  refine Exec.reg ?_
  refine Run.op (by simp only [go_sem] <;> rfl) (by simp only [go_sem] <;> rfl) ?_
  refine Run.nil ?_
  refine Exec.blk ?_
  refine Exec.forA [0, 1, 2, 7] [] (fs.length) (fun k => [.slot 7 (.int k)]) (fun k => ∀ j x, j < k → fs[j]? = some x → withinB (placeD t j) x m = true) (fun k => by simp only [go_sem] <;> rfl) (by simp only [go_sem] <;> rfl) ?_ (fun k hk hX => ?_)
  · exact fun j x hj => by omega
  · skip
    refine Exec.assocS ?_
    refine Exec.reg ?_
    iterate 4 (refine Run.op (by simp only [go_sem] <;> rfl) (by simp only [go_sem] <;> rfl) ?_)
    refine Run.nil ?_
    refine Exec.cndS (by simp only [go_sem] <;> rfl) (fun hb11 => ?_) (fun hb11 => ?_)
    · skip
      have hlt := lt_of_dec hb11
      obtain ⟨x, hx⟩ := elem_of hb11
      have hxb := hfs x (List.mem_of_getElem? hx)
      refine Exec.skipS ?_
      refine Exec.blk ?_
      refine Exec.opk 12 ?_
      refine OpenK.op (by simp only [go_sem, hx] <;> rfl) (by simp only [go_sem] <;> rfl) (by simp only [go_sem] <;> rfl) ?_
      refine OpenK.op (by simp only [go_sem, hx] <;> rfl) (by simp only [go_sem] <;> rfl) (by simp only [go_sem] <;> rfl) ?_
      refine OpenK.cal (c_meterworksref02_Place k (by omega) t ht) (by simp only [go_sem]) (by simp only [go_sem, hx] <;> rfl) (by exact ⟨by first | exact WkR.pure rfl | exact WkR.nil _ | exact WkR.int (by first | omega | (simp; done) | (simp; omega)), by first | exact WkR.pure rfl | exact WkR.nil _ | exact WkR.int (by first | omega | (simp; done) | (simp; omega)), trivial⟩) (fr0) (by simp only [go_sem, hx] <;> rfl) (by simp only [go_sem] <;> rfl) (by simp only [go_sem] <;> rfl) ?_
      refine OpenK.op (by simp only [go_sem, hx] <;> rfl) (by simp only [go_sem] <;> rfl) (by simp only [go_sem] <;> rfl) ?_
      refine OpenK.op (by simp only [go_sem, hx] <;> rfl) (by simp only [go_sem] <;> rfl) (by simp only [go_sem] <;> rfl) ?_
      refine OpenK.op (by simp only [go_sem, hx]; (try simp (disch := omega) only [if_pos]); (try simp only [go_sem, hx])<;> rfl) (by simp only [go_sem] <;> rfl) (by simp only [go_sem] <;> rfl) ?_
      refine OpenK.op (by simp only [go_sem, hx] <;> rfl) (by simp only [go_sem] <;> rfl) (by simp only [go_sem] <;> rfl) ?_
      refine OpenK.op (by simp only [go_sem, hx] <;> rfl) (by simp only [go_sem] <;> rfl) (by simp only [go_sem] <;> rfl) ?_
      refine OpenK.cal (c_meterworksref02_Within (placeD t k) x m (place_bnd t k) hxb hm) (by simp only [go_sem]) (by simp only [go_sem, hx] <;> rfl) (by exact ⟨by first | exact WkR.pure rfl | exact WkR.nil _ | exact WkR.int (by first | omega | (simp; done) | (simp; omega)), by first | exact WkR.pure rfl | exact WkR.nil _ | exact WkR.int (by first | omega | (simp; done) | (simp; omega)), by first | exact WkR.pure rfl | exact WkR.nil _ | exact WkR.int (by first | omega | (simp; done) | (simp; omega)), trivial⟩) (fr0) (by simp only [go_sem, hx] <;> rfl) (by simp only [go_sem] <;> rfl) (by simp only [go_sem] <;> rfl) ?_
      refine OpenK.op (by simp only [go_sem, hx] <;> rfl) (by simp only [go_sem] <;> rfl) (by simp only [go_sem] <;> rfl) ?_
      refine OpenK.nil (OpenE.fin (by decide +kernel) (by decide +kernel) ?_)
      refine Exec.cnd (by simp only [go_sem, hx] <;> rfl) (fun hb23 => ?_) (fun hb23 => ?_)
      · skip
        have hw : ¬ withinB (placeD t k) x m = true := by simpa using hb23
        have hr : fitsB fs t m = false := by rw [← Bool.not_eq_true, fits_iff]; exact fun h => hw (h k x hx)
        refine Exec.reg ?_
        refine Run.op (by simp only [go_sem, hx, hr] <;> rfl) (by simp only [go_sem] <;> rfl) ?_
        refine Run.nil ?_
        refine BlkK.ret ?_
        refine ForK.ret ?_
        refine BlkK.ret ?_
        exact Ends.fin [] (rs := [.tmp 6]) rfl (by simp only [go_sem, hx, hr] <;> rfl) (by simp only [go_sem, hx, hr] <;> first | rfl | ((repeat' (first | with_reducible_and_instances rfl | refine st_eq ?_ ?_ ?_ | refine ret_eq ?_ | refine tup_eq ?_ | refine tm_eq ?_ ?_ | refine arr_eq ?_ | refine cells_eq ?_ | refine val_eq ?_ | refine ls_eq ?_ ?_ | refine own_eq ?_ ?_ | refine sl_eq ?_ | refine b_eq ?_ | (refine i_eq ?_; omega))); done))
      · skip
        have hw : withinB (placeD t k) x m = true := by simpa using hb23
        refine BlkK.nrm ?_
        refine Exec.reg1 ?_
        refine Run.op (by simp only [go_sem, hx] <;> rfl) (by simp only [go_sem] <;> rfl) ?_
        refine Run.op (by simp only [go_sem, hx]; (try simp (disch := omega) only [IntWalk.i64_in, IntWalk.u64_in, if_neg, if_pos])<;> rfl) (by simp only [go_sem] <;> rfl) ?_
        refine Run.op (by simp only [go_sem, hx] <;> rfl) (by simp only [go_sem] <;> rfl) ?_
        refine Run.nil ?_
        refine ForK.nxt ?_ ?_ ?_
        · omega
        · exact Ghost.kp [0, 1, 2, 7] [] (by simp only [go_sem, hx]; first | ((repeat' (first | with_reducible_and_instances rfl | refine st_eq ?_ ?_ ?_ | refine ret_eq ?_ | refine tup_eq ?_ | refine tm_eq ?_ ?_ | refine arr_eq ?_ | refine cells_eq ?_ | refine val_eq ?_ | refine ls_eq ?_ ?_ | refine own_eq ?_ ?_ | refine sl_eq ?_ | refine b_eq ?_ | (refine i_eq ?_; omega))); done) | rfl)
        · intro j y hj hy
          by_cases e : j = k
          · subst e; rw [hx] at hy; cases hy; exact hw
          · exact hX j y (by omega) hy
    · skip
      have hge := ge_of_dec hb11
      have hr : fitsB fs t m = true := by rw [fits_iff]; exact fun j x hx => hX j x (by have := (List.getElem?_eq_some_iff.1 hx).1; omega) hx
      refine Exec.exitS ?_
      refine ForK.ext ?_
      refine BlkK.hit ?_
      refine Exec.reg ?_
      refine Run.op (by simp only [go_sem, hr] <;> rfl) (by simp only [go_sem] <;> rfl) ?_
      refine Run.nil ?_
      exact Ends.fin [] (rs := [.tmp 6]) rfl (by simp only [go_sem, hr] <;> rfl) (by simp only [go_sem, hr] <;> first | rfl | ((repeat' (first | with_reducible_and_instances rfl | refine st_eq ?_ ?_ ?_ | refine ret_eq ?_ | refine tup_eq ?_ | refine tm_eq ?_ ?_ | refine arr_eq ?_ | refine cells_eq ?_ | refine val_eq ?_ | refine ls_eq ?_ ?_ | refine own_eq ?_ ?_ | refine sl_eq ?_ | refine b_eq ?_ | (refine i_eq ?_; omega))); done))

set_option maxRecDepth 20000 in
/-- meterworks/meterworksref02.Figures -/
theorem c_meterworksref02_Figures (l : List Int) (hl : l.length ≤ 1000) : Contract Try.prog 23 [.leaf (.d (intsD l))] (.bool (figsB l)) [] := by
  refine con_of follows_mixed Try.func23 rfl (by simp only [List.length_cons, List.length_nil, Try.ntmps23]; omega) (by kernel_rfl) rfl ?_
  refine Exec.reg ?_
  refine Run.op (by simp only [go_sem] <;> rfl) (by simp only [go_sem] <;> rfl) ?_
  refine Run.nil ?_
  refine Exec.assocS ?_
  refine Exec.reg ?_
  refine Run.op (by simp only [go_sem] <;> rfl) (by simp only [go_sem] <;> rfl) ?_
  refine Run.nil ?_
  refine Exec.blk ?_
  refine Exec.forA [0, 3] [] (l.length) (fun k => [.slot 3 (.int k)]) (fun k => (l.take k).all (fun n => inD n 0 9) = true) (fun k => by simp only [go_sem] <;> rfl) (by simp only [go_sem] <;> rfl) ?_ (fun k hk hX => ?_)
  · rfl
  · skip
    refine Exec.assocS ?_
    refine Exec.reg ?_
    iterate 4 (refine Run.op (by simp only [go_sem] <;> rfl) (by simp only [go_sem] <;> rfl) ?_)
    refine Run.nil ?_
    refine Exec.cndS (by simp only [go_sem] <;> rfl) (fun hb7 => ?_) (fun hb7 => ?_)
    · skip
      have hlt := lt_of_dec hb7
      obtain ⟨s, hs⟩ := elem_of hb7
      refine Exec.skipS ?_
      refine Exec.blk ?_
      refine Exec.reg ?_
      iterate 2 (refine Run.op (by simp only [go_sem, hs] <;> rfl) (by simp only [go_sem] <;> rfl) ?_)
      refine Run.op (by simp only [go_sem, hs]; (try simp (disch := omega) only [if_pos]); (try simp only [go_sem, hs])<;> rfl) (by simp only [go_sem] <;> rfl) ?_
      refine Run.op (by simp only [go_sem, hs] <;> rfl) (by simp only [go_sem] <;> rfl) ?_
      refine Run.cal (c_meterworksref02_in _ _ _) (by simp only [go_sem]) (by simp only [go_sem, hs] <;> rfl) (by exact ⟨by first | exact WkR.pure rfl | exact WkR.nil _ | exact WkR.int (by first | omega | (simp; done) | (simp; omega)), by first | exact WkR.pure rfl | exact WkR.nil _ | exact WkR.int (by first | omega | (simp; done) | (simp; omega)), by first | exact WkR.pure rfl | exact WkR.nil _ | exact WkR.int (by first | omega | (simp; done) | (simp; omega)), trivial⟩) (fr0) (by simp only [go_sem, hs] <;> rfl) ?_
      refine Run.op (by simp only [go_sem, hs] <;> rfl) (by simp only [go_sem] <;> rfl) ?_
      refine Run.nil ?_
      refine Exec.cnd (by simp only [go_sem, hs] <;> rfl) (fun hb15 => ?_) (fun hb15 => ?_)
      · skip
        have ha : l.all (fun n => inD n 0 9) = false := all_stop hs (by simpa using hb15)
        have hr : figsB l = false := by unfold figsB; rw [ha, Bool.false_and]
        refine Exec.reg ?_
        refine Run.op (by simp only [go_sem, hs, hr] <;> rfl) (by simp only [go_sem] <;> rfl) ?_
        refine Run.nil ?_
        refine BlkK.ret ?_
        refine ForK.ret ?_
        refine BlkK.ret ?_
        exact Ends.fin [] (rs := [.tmp 2]) rfl (by simp only [go_sem, hs, hr] <;> rfl) (by simp only [go_sem, hs, hr] <;> first | rfl | ((repeat' (first | with_reducible_and_instances rfl | refine st_eq ?_ ?_ ?_ | refine ret_eq ?_ | refine tup_eq ?_ | refine tm_eq ?_ ?_ | refine arr_eq ?_ | refine cells_eq ?_ | refine val_eq ?_ | refine ls_eq ?_ ?_ | refine own_eq ?_ ?_ | refine sl_eq ?_ | refine b_eq ?_ | (refine i_eq ?_; omega))); done))
      · skip
        refine BlkK.nrm ?_
        refine Exec.reg1 ?_
        refine Run.op (by simp only [go_sem, hs] <;> rfl) (by simp only [go_sem] <;> rfl) ?_
        refine Run.op (by simp only [go_sem, hs]; (try simp (disch := omega) only [IntWalk.i64_in, IntWalk.u64_in, if_neg, if_pos])<;> rfl) (by simp only [go_sem] <;> rfl) ?_
        refine Run.op (by simp only [go_sem, hs] <;> rfl) (by simp only [go_sem] <;> rfl) ?_
        refine Run.nil ?_
        refine ForK.nxt ?_ ?_ ?_
        · omega
        · exact Ghost.kp [0, 3] [] (by simp only [go_sem, hs]; first | ((repeat' (first | with_reducible_and_instances rfl | refine st_eq ?_ ?_ ?_ | refine ret_eq ?_ | refine tup_eq ?_ | refine tm_eq ?_ ?_ | refine arr_eq ?_ | refine cells_eq ?_ | refine val_eq ?_ | refine ls_eq ?_ ?_ | refine own_eq ?_ ?_ | refine sl_eq ?_ | refine b_eq ?_ | (refine i_eq ?_; omega))); done) | rfl)
        · exact all_step hX hs (by simpa using hb15)
    · skip
      have ha := all_done hX (ge_of_dec hb7)
      have hr : figsB l = inD (l.length : Int) 1 6 := by unfold figsB; rw [ha, Bool.true_and]
      refine Exec.exitS ?_
      refine ForK.ext ?_
      refine BlkK.hit ?_
      refine Exec.reg ?_
      iterate 2 (refine Run.op (by simp only [go_sem, hr] <;> rfl) (by simp only [go_sem] <;> rfl) ?_)
      refine Run.cal (c_meterworksref02_in _ _ _) (by simp only [go_sem]) (by simp only [go_sem, hr] <;> rfl) (by exact ⟨by first | exact WkR.pure rfl | exact WkR.nil _ | exact WkR.int (by first | omega | (simp; done) | (simp; omega)), by first | exact WkR.pure rfl | exact WkR.nil _ | exact WkR.int (by first | omega | (simp; done) | (simp; omega)), by first | exact WkR.pure rfl | exact WkR.nil _ | exact WkR.int (by first | omega | (simp; done) | (simp; omega)), trivial⟩) (fr0) (by simp only [go_sem, hr] <;> rfl) ?_
      refine Run.op (by simp only [go_sem, hr] <;> rfl) (by simp only [go_sem] <;> rfl) ?_
      refine Run.nil ?_
      exact Ends.fin [] (rs := [.tmp 2]) rfl (by simp only [go_sem, hr] <;> rfl) (by simp only [go_sem, hr] <;> first | rfl | ((repeat' (first | with_reducible_and_instances rfl | refine st_eq ?_ ?_ ?_ | refine ret_eq ?_ | refine tup_eq ?_ | refine tm_eq ?_ ?_ | refine arr_eq ?_ | refine cells_eq ?_ | refine val_eq ?_ | refine ls_eq ?_ ?_ | refine own_eq ?_ ?_ | refine sl_eq ?_ | refine b_eq ?_ | (refine i_eq ?_; omega))); done))

theorem refF_len (fs : List Int) (m : Int) : ∀ k, (refF fs m k).length ≤ k
  | 0 => Nat.le_refl _
  | k + 1 => by
    have ih := refF_len fs m k
    unfold refF
    split
    · split
      · rename_i y hy
        split
        · have : 0 < (refF fs m k).length := List.length_pos_iff.2 fun h => by rw [h] at hy; cases hy
          simp; omega
        · simp; omega
      · simp
    · omega
theorem refF_no {fs : List Int} {m : Int} {k : Nat} (h : fitsB fs k m = false) : refF fs m (k + 1) = refF fs m k := by
  show (if fitsB fs k m = true then _ else refF fs m k) = _
  rw [h]; rfl
theorem refF_one {fs : List Int} {m : Int} {k : Nat} (h : fitsB fs k m = true) (h0 : refF fs m k = []) : refF fs m (k + 1) = [⟨k, k⟩] := by
  show (if fitsB fs k m = true then _ else refF fs m k) = _
  rw [if_pos h, h0]; rfl
theorem refF_ext {fs : List Int} {m : Int} {k : Nat} {o : List Go.Dr.Span} {y : Go.Dr.Span} (h : fitsB fs k m = true) (h0 : refF fs m k = o ++ [y]) : refF fs m (k + 1) = if y.hi = (k : Int) - 1 then o ++ [⟨y.lo, k⟩] else o ++ [y] ++ [⟨k, k⟩] := by
  show (if fitsB fs k m = true then _ else refF fs m k) = _
  rw [if_pos h, h0]
  simp
theorem pow_le2 {n : Nat} (h : n ≤ 2) : 1 ≤ pow10 n ∧ pow10 n ≤ 100 := by
  have h1 := pow10_pos n
  have h2 := pow10_le h
  have h3 : pow10 2 = 100 := by decide
  omega
set_option maxRecDepth 20000 in
set_option maxHeartbeats 8000000 in
/-- meterworks/meterworksref02.Fit -/
theorem c_meterworksref02_Fit (fs : List Int) (m : Int) (hl : fs.length ≤ 1000) (h2 : figsB fs = true → fs.length ≤ 2) : Contract Try.prog 18 [.leaf (.d (intsD fs)), .int m] (fitV (fitR fs m)) [] := by
  refine con_of follows_mixed Try.func18 rfl (by simp only [List.length_cons, List.length_nil, Try.ntmps18]; omega) (by kernel_rfl) rfl ?_
  refine Exec.reg ?_
  iterate 2 (refine Run.op (by simp only [go_sem] <;> rfl) (by simp only [go_sem] <;> rfl) ?_)
  refine Run.nil ?_
  refine Exec.assocS ?_
  refine Exec.reg ?_
  refine Run.op (by simp only [go_sem] <;> rfl) (by simp only [go_sem] <;> rfl) ?_
  refine Run.cal (c_meterworksref02_Figures fs hl) (by simp only [go_sem]) (by simp only [go_sem] <;> rfl) (by exact ⟨by first | exact WkR.pure rfl | exact WkR.nil _ | exact WkR.int (by first | omega | (simp; done) | (simp; omega)), trivial⟩) (fr0) (by simp only [go_sem] <;> rfl) ?_
  refine Run.op (by simp only [go_sem] <;> rfl) (by simp only [go_sem] <;> rfl) ?_
  refine Run.nil ?_
  refine Exec.cndS (by simp only [go_sem] <;> rfl) (fun hb10 => ?_) (fun hb10 => ?_)
  · skip
    have hfg : figsB fs = false := by simpa using hb10
    have hr : fitR fs m = ([], 1) := by unfold fitR; rw [if_pos hfg]
    refine Exec.assocS ?_
    refine Exec.reg ?_
    iterate 2 (refine Run.op (by simp only [go_sem, hr] <;> rfl) (by simp only [go_sem] <;> rfl) ?_)
    refine Run.nild 4 2 (by simp only [go_sem] <;> rfl) (by simp only [go_sem] <;> rfl) ?_
    refine Run.nil ?_
    refine Exec.retS ?_
    exact Ends.fin [] (rs := [.tmp 4, .tmp 5]) rfl (by simp only [go_sem, hr] <;> rfl) (by simp only [go_sem, hr] <;> first | rfl | ((repeat' (first | with_reducible_and_instances rfl | refine st_eq ?_ ?_ ?_ | refine ret_eq ?_ | refine tup_eq ?_ | refine tm_eq ?_ ?_ | refine arr_eq ?_ | refine cells_eq ?_ | refine val_eq ?_ | refine ls_eq ?_ ?_ | refine own_eq ?_ ?_ | refine sl_eq ?_ | refine b_eq ?_ | (refine i_eq ?_; omega))); done))
  · skip
    have hf : figsB fs = true := by simpa using hb10
    obtain ⟨hfs, hl1, hl6⟩ := figs_iff.1 hf
    have hl2 := h2 hf
    refine Exec.skipS ?_
    refine Exec.assocS ?_
    refine Exec.reg ?_
    refine Run.op (by simp only [go_sem] <;> rfl) (by simp only [go_sem] <;> rfl) ?_
    refine Run.cal (c_meterworksref02_in _ _ _) (by simp only [go_sem]) (by simp only [go_sem] <;> rfl) (by exact ⟨by first | exact WkR.pure rfl | exact WkR.nil _ | exact WkR.int (by first | omega | (simp; done) | (simp; omega)), by first | exact WkR.pure rfl | exact WkR.nil _ | exact WkR.int (by first | omega | (simp; done) | (simp; omega)), by first | exact WkR.pure rfl | exact WkR.nil _ | exact WkR.int (by first | omega | (simp; done) | (simp; omega)), trivial⟩) (fr0) (by simp only [go_sem] <;> rfl) ?_
    refine Run.op (by simp only [go_sem] <;> rfl) (by simp only [go_sem] <;> rfl) ?_
    refine Run.nil ?_
    refine Exec.cndS (by simp only [go_sem] <;> rfl) (fun hb13 => ?_) (fun hb13 => ?_)
    · skip
      have hmi : inD m 0 999 = false := by simpa using hb13
      have hr : fitR fs m = ([], 2) := by unfold fitR; rw [if_neg (by simp [hf]), if_pos hmi]
      refine Exec.assocS ?_
      refine Exec.reg ?_
      iterate 2 (refine Run.op (by simp only [go_sem, hr] <;> rfl) (by simp only [go_sem] <;> rfl) ?_)
      refine Run.nild 4 2 (by simp only [go_sem] <;> rfl) (by simp only [go_sem] <;> rfl) ?_
      refine Run.nil ?_
      refine Exec.retS ?_
      exact Ends.fin [] (rs := [.tmp 4, .tmp 5]) rfl (by simp only [go_sem, hr] <;> rfl) (by simp only [go_sem, hr] <;> first | rfl | ((repeat' (first | with_reducible_and_instances rfl | refine st_eq ?_ ?_ ?_ | refine ret_eq ?_ | refine tup_eq ?_ | refine tm_eq ?_ ?_ | refine arr_eq ?_ | refine cells_eq ?_ | refine val_eq ?_ | refine ls_eq ?_ ?_ | refine own_eq ?_ ?_ | refine sl_eq ?_ | refine b_eq ?_ | (refine i_eq ?_; omega))); done))
    · skip
      have hmi : inD m 0 999 = true := by simpa using hb13
      have hm := inD_iff.1 hmi
      have hpw := pow_le2 hl2
      have htn : turnD (fs.length : Int) = 1000 * pow10 fs.length := rfl
      have hr0 : refF fs m 0 = [] := rfl
      refine Exec.skipS ?_
      refine Exec.reg ?_
      refine Run.op (by simp only [go_sem] <;> rfl) (by simp only [go_sem] <;> rfl) ?_
      refine Run.nil ?_
      refine Exec.assocS ?_
      refine Exec.reg ?_
      refine Run.nilo 6 1000 45 2 (by simp only [go_sem] <;> rfl) (by simp only [go_sem] <;> rfl) (by omega) (by omega) (by simp only [go_sem] <;> rfl) ?_
      refine Run.op (by simp only [go_sem] <;> rfl) (by simp only [go_sem] <;> rfl) ?_
      refine Run.nil ?_
      refine Exec.blk ?_
      refine Exec.forA [0, 1, 6, 7] [1000] ((turnD (fs.length : Int)).toNat) (fun k => [.slot 7 (.int k), .slot 6 (.leaf (.own 1000 0 (refF fs m k).length (refF fs m k).length)), .obj 1000 (.arr 45 2 ((refF fs m k).map encSpan))]) (fun _ => True) (fun k => by simp only [go_sem] <;> rfl) (by simp only [go_sem, hr0, Int.natCast_zero] <;> rfl) ?_ (fun k hk hX => ?_)
      · trivial
      · skip
        refine Exec.assocS ?_
        refine Exec.reg ?_
        iterate 3 (refine Run.op (by simp only [go_sem] <;> rfl) (by simp only [go_sem] <;> rfl) ?_)
        refine Run.cal (c_meterworksref02_Turn (fs.length : Int) (by omega)) (by simp only [go_sem]) (by simp only [go_sem] <;> rfl) (by exact ⟨by first | exact WkR.pure rfl | exact WkR.nil _ | exact WkR.int (by first | omega | (simp; done) | (simp; omega)), trivial⟩) (fr0) (by simp only [go_sem] <;> rfl) ?_
        refine Run.op (by simp only [go_sem] <;> rfl) (by simp only [go_sem] <;> rfl) ?_
        refine Run.nil ?_
        refine Exec.cndS (by simp only [go_sem] <;> rfl) (fun hb18 => ?_) (fun hb18 => ?_)
        · skip
          have hlt : (k : Int) < turnD (fs.length : Int) := of_decide_eq_true hb18
          have hrl := refF_len fs m k
          obtain ⟨J, hJ⟩ : ∃ J, refF fs m k = J := ⟨_, rfl⟩
          rw [hJ] at hrl
          simp only [hJ]
          refine Exec.skipS ?_
          refine Exec.blk ?_
          refine Exec.assocS ?_
          refine Exec.reg ?_
          iterate 3 (refine Run.op (by simp only [go_sem] <;> rfl) (by simp only [go_sem] <;> rfl) ?_)
          refine Run.cal (c_meterworksref02_Fits fs (k : Int) m hl6 hfs (by omega) hm) (by simp only [go_sem]) (by simp only [go_sem] <;> rfl) (by exact ⟨by first | exact WkR.pure rfl | exact WkR.nil _ | exact WkR.int (by first | omega | (simp; done) | (simp; omega)), by first | exact WkR.pure rfl | exact WkR.nil _ | exact WkR.int (by first | omega | (simp; done) | (simp; omega)), by first | exact WkR.pure rfl | exact WkR.nil _ | exact WkR.int (by first | omega | (simp; done) | (simp; omega)), trivial⟩) (fr0) (by simp only [go_sem] <;> rfl) ?_
          refine Run.op (by simp only [go_sem] <;> rfl) (by simp only [go_sem] <;> rfl) ?_
          refine Run.nil ?_
          refine Exec.cndS (by simp only [go_sem] <;> rfl) (fun hb25 => ?_) (fun hb25 => ?_)
          · skip
            have hnf : fitsB fs (k : Int) m = false := by simpa using hb25
            have hsu := refF_no hnf
            rw [hJ] at hsu
            refine Exec.exitS ?_
            refine BlkK.hit ?_
            refine Exec.reg1 ?_
            refine Run.op (by simp only [go_sem, hsu] <;> rfl) (by simp only [go_sem] <;> rfl) ?_
            refine Run.op (by simp only [go_sem, hsu]; (try simp (disch := omega) only [IntWalk.i64_in, IntWalk.u64_in, if_neg, if_pos])<;> rfl) (by simp only [go_sem] <;> rfl) ?_
            refine Run.op (by simp only [go_sem, hsu] <;> rfl) (by simp only [go_sem] <;> rfl) ?_
            refine Run.nil ?_
            refine ForK.nxt ?_ ?_ ?_
            · omega
            · exact Ghost.kp [0, 1, 6, 7] [1000] (by simp only [go_sem, hsu]; first | ((repeat' (first | with_reducible_and_instances rfl | refine st_eq ?_ ?_ ?_ | refine ret_eq ?_ | refine tup_eq ?_ | refine tm_eq ?_ ?_ | refine arr_eq ?_ | refine cells_eq ?_ | refine val_eq ?_ | refine ls_eq ?_ ?_ | refine own_eq ?_ ?_ | refine sl_eq ?_ | refine b_eq ?_ | (refine i_eq ?_; omega))); done) | rfl)
            · trivial
          · skip
            have hyf : fitsB fs (k : Int) m = true := by simpa using hb25
            refine Exec.skipS ?_
            by_cases hj : J = []
            · skip
              subst hj
              have hsu := refF_one hyf hJ
              refine Exec.reg ?_
              iterate 4 (refine Run.op (by simp only [go_sem, List.length_nil, List.map_nil] <;> rfl) (by simp only [go_sem] <;> rfl) ?_)
              refine Run.skp (by simp only [go_sem] <;> rfl) (by simp only [go_sem] <;> rfl) ?_
              refine Run.skp (by simp only [go_sem] <;> rfl) (by simp only [go_sem] <;> rfl) ?_
              refine Run.skp (by simp only [go_sem] <;> rfl) (by simp only [go_sem] <;> rfl) ?_
              refine Run.skp (by simp only [go_sem] <;> rfl) (by simp only [go_sem] <;> rfl) ?_
              refine Run.skp (by simp only [go_sem] <;> rfl) (by simp only [go_sem] <;> rfl) ?_
              refine Run.skp (by simp only [go_sem] <;> rfl) (by simp only [go_sem] <;> rfl) ?_
              refine Run.skp (by simp only [go_sem] <;> rfl) (by simp only [go_sem] <;> rfl) ?_
              refine Run.skp (by simp only [go_sem] <;> rfl) (by simp only [go_sem] <;> rfl) ?_
              refine Run.skp (by simp only [go_sem] <;> rfl) (by simp only [go_sem] <;> rfl) ?_
              refine Run.skp (by simp only [go_sem] <;> rfl) (by simp only [go_sem] <;> rfl) ?_
              refine Run.op (by simp only [go_sem, List.length_nil, List.map_nil] <;> rfl) (by simp only [go_sem] <;> rfl) ?_
              refine Run.nil ?_
              refine Exec.cnd (by simp only [go_sem, List.length_nil, List.map_nil] <;> rfl) (fun hb40 => ?_) (fun hb40 => ?_)
              · exact absurd hb40 (by simp)
              · skip
                refine Exec.reg1 ?_
                iterate 5 (refine Run.op (by simp only [go_sem, List.length_nil, List.map_nil] <;> rfl) (by simp only [go_sem] <;> rfl) ?_)
                refine Run.op (by simp only [go_sem, List.length_nil, List.map_nil]; (try simp (disch := omega) only [if_pos]); (try simp only [go_sem, List.length_nil, List.map_nil]) <;> first | (refine ite_run ⟨by (try simp only [List.length_append, List.length_drop, List.length_take, List.length_map, List.length_cons, List.length_nil, List.length_replicate, List.length_set, List.length_range, Nat.zero_add]); omega, by (try simp only [List.length_append, List.length_drop, List.length_take, List.length_map, List.length_cons, List.length_nil, List.length_replicate, List.length_set, List.length_range, Nat.zero_add]); omega, by repeat (first | exact al_nil | assumption | refine al_app ?_ ?_ | refine al_drop ?_ | refine al_take ?_ | exact al_map (fun _ => rfl) | exact al_rep rfl | refine al_cons rfl ?_)⟩ ?_; simp only [go_sem, List.length_nil, List.map_nil] <;> rfl) | (refine ite_run ⟨by (try simp only [List.length_append, List.length_drop, List.length_take, List.length_map, List.length_cons, List.length_nil, List.length_replicate, List.length_set, List.length_range, Nat.zero_add]); omega, by repeat (first | exact al_nil | assumption | refine al_app ?_ ?_ | refine al_drop ?_ | refine al_take ?_ | exact al_map (fun _ => rfl) | exact al_rep rfl | refine al_cons rfl ?_)⟩ ?_; simp only [go_sem, List.length_nil, List.map_nil] <;> rfl) | rfl) (by simp only [go_sem] <;> rfl) ?_
                refine Run.op (by simp only [go_sem, List.length_nil, List.map_nil] <;> rfl) (by simp only [go_sem] <;> rfl) ?_
                refine Run.nil ?_
                refine BlkK.nrm ?_
                refine Exec.reg1 ?_
                refine Run.op (by simp only [go_sem, List.length_nil, List.map_nil] <;> rfl) (by simp only [go_sem] <;> rfl) ?_
                refine Run.op (by simp only [go_sem, List.length_nil, List.map_nil]; (try simp (disch := omega) only [IntWalk.i64_in, IntWalk.u64_in, if_neg, if_pos])<;> rfl) (by simp only [go_sem] <;> rfl) ?_
                refine Run.op (by simp only [go_sem, List.length_nil, List.map_nil] <;> rfl) (by simp only [go_sem] <;> rfl) ?_
                refine Run.nil ?_
                refine ForK.nxt ?_ ?_ ?_
                · omega
                · exact Ghost.kp [0, 1, 6, 7] [1000] (by simp only [go_sem, List.length_nil, List.map_nil]; first | ((repeat' (first | with_reducible_and_instances rfl | refine st_eq ?_ ?_ ?_ | refine ret_eq ?_ | refine tup_eq ?_ | refine tm_eq ?_ ?_ | refine arr_eq ?_ | refine cells_eq ?_ | refine val_eq ?_ | refine ls_eq ?_ ?_ | refine own_eq ?_ ?_ | refine sl_eq ?_ | refine b_eq ?_ | (refine i_eq ?_; omega))); (all_goals (simp [hsu, encSpan]))) | rfl)
                · trivial
            · skip
              obtain ⟨o, y, hoy⟩ : ∃ o y, J = o ++ [y] := by
                rcases snoc_cases J with h | h
                · exact absurd h hj
                · exact h
              subst hoy
              have hsu := refF_ext hyf hJ
              have hol : o.length + 1 ≤ k := by simpa using hrl
              have g1 : decide (((o.length + 1 : Nat) : Int) > 0) = true := decide_eq_true (by omega)
              have t1 : (((o.length + 1 : Nat) : Int) - 1).toNat = o.length := by omega
              have hg : (o ++ [y])[o.length]? = some y := by simp
              refine Exec.reg ?_
              iterate 4 (refine Run.op (by simp only [go_sem, g1, t1, hg] <;> rfl) (by simp only [go_sem] <;> rfl) ?_)
              refine Run.yes (by simp only [go_sem] <;> rfl) (by simp only [go_sem, g1, t1, hg] <;> rfl) (by simp only [go_sem] <;> rfl) ?_
              refine Run.yes (by simp only [go_sem] <;> rfl) (by simp only [go_sem, g1, t1, hg] <;> rfl) (by simp only [go_sem] <;> rfl) ?_
              refine Run.yes (by simp only [go_sem] <;> rfl) (by simp only [go_sem, g1, t1, hg] <;> rfl) (by simp only [go_sem] <;> rfl) ?_
              refine Run.yes (by simp only [go_sem] <;> rfl) (by simp only [go_sem, g1, t1, hg]; (try simp (disch := omega) only [IntWalk.i64_in, IntWalk.u64_in, if_neg, if_pos])<;> rfl) (by simp only [go_sem] <;> rfl) ?_
              refine Run.yes (by simp only [go_sem] <;> rfl) (by simp only [go_sem, g1, t1, hg]; (try simp (disch := omega) only [if_pos]); (try simp only [go_sem, g1, t1, hg])<;> rfl) (by simp only [go_sem] <;> rfl) ?_
              refine Run.yes (by simp only [go_sem] <;> rfl) (by simp only [go_sem, g1, t1, hg] <;> rfl) (by simp only [go_sem] <;> rfl) ?_
              refine Run.yes (by simp only [go_sem] <;> rfl) (by simp only [go_sem, g1, t1, hg] <;> rfl) (by simp only [go_sem] <;> rfl) ?_
              refine Run.yes (by simp only [go_sem] <;> rfl) (by simp only [go_sem, g1, t1, hg] <;> rfl) (by simp only [go_sem] <;> rfl) ?_
              refine Run.yes (by simp only [go_sem] <;> rfl) (by simp only [go_sem, g1, t1, hg]; (try simp (disch := omega) only [IntWalk.i64_in, IntWalk.u64_in, if_neg, if_pos])<;> rfl) (by simp only [go_sem] <;> rfl) ?_
              refine Run.yes (by simp only [go_sem] <;> rfl) (by simp only [go_sem, g1, t1, hg] <;> rfl) (by simp only [go_sem] <;> rfl) ?_
              refine Run.op (by simp only [go_sem, g1, t1, hg] <;> rfl) (by simp only [go_sem] <;> rfl) ?_
              refine Run.nil ?_
              refine Exec.cnd (by simp only [go_sem, g1, t1, hg] <;> rfl) (fun hb40 => ?_) (fun hb40 => ?_)
              · skip
                have hle : y.hi = (k : Int) - 1 := by simpa using hb40
                rw [if_pos hle] at hsu
                have hsl := set_last (o.map encSpan) (encSpan y) [D.i y.lo, D.i (k : Int)]
                refine Exec.reg1 ?_
                iterate 3 (refine Run.op (by simp only [go_sem, g1, t1, hg] <;> rfl) (by simp only [go_sem] <;> rfl) ?_)
                refine Run.op (by simp only [go_sem, g1, t1, hg]; (try simp (disch := omega) only [IntWalk.i64_in, IntWalk.u64_in, if_neg, if_pos])<;> rfl) (by simp only [go_sem] <;> rfl) ?_
                refine Run.op (by simp only [go_sem, g1, t1, hg] <;> rfl) (by simp only [go_sem] <;> rfl) ?_
                refine Run.op (by simp only [go_sem, g1, t1, hg]; (try simp (disch := omega) only [if_pos]); (try simp only [go_sem, g1, t1, hg])<;> rfl) (by simp only [go_sem] <;> rfl) ?_
                iterate 2 (refine Run.op (by simp only [go_sem, g1, t1, hg] <;> rfl) (by simp only [go_sem] <;> rfl) ?_)
                refine Run.nil ?_
                refine BlkK.nrm ?_
                refine Exec.reg1 ?_
                refine Run.op (by simp only [go_sem, g1, t1, hg] <;> rfl) (by simp only [go_sem] <;> rfl) ?_
                refine Run.op (by simp only [go_sem, g1, t1, hg]; (try simp (disch := omega) only [IntWalk.i64_in, IntWalk.u64_in, if_neg, if_pos])<;> rfl) (by simp only [go_sem] <;> rfl) ?_
                refine Run.op (by simp only [go_sem, g1, t1, hg] <;> rfl) (by simp only [go_sem] <;> rfl) ?_
                refine Run.nil ?_
                refine ForK.nxt ?_ ?_ ?_
                · omega
                · exact Ghost.kp [0, 1, 6, 7] [1000] (by simp only [go_sem, g1, t1, hg]; first | ((repeat' (first | with_reducible_and_instances rfl | refine st_eq ?_ ?_ ?_ | refine ret_eq ?_ | refine tup_eq ?_ | refine tm_eq ?_ ?_ | refine arr_eq ?_ | refine cells_eq ?_ | refine val_eq ?_ | refine ls_eq ?_ ?_ | refine own_eq ?_ ?_ | refine sl_eq ?_ | refine b_eq ?_ | (refine i_eq ?_; omega))); (all_goals (simp [hsu, encSpan]))) | rfl)
                · trivial
              · skip
                have hle : ¬ y.hi = (k : Int) - 1 := by simpa using hb40
                rw [if_neg hle] at hsu
                refine Exec.reg1 ?_
                iterate 5 (refine Run.op (by simp only [go_sem, g1, t1, hg] <;> rfl) (by simp only [go_sem] <;> rfl) ?_)
                refine Run.op (by simp only [go_sem, g1, t1, hg]; (try simp (disch := omega) only [if_pos]); (try simp only [go_sem, g1, t1, hg]) <;> first | (refine ite_run ⟨by (try simp only [List.length_append, List.length_drop, List.length_take, List.length_map, List.length_cons, List.length_nil, List.length_replicate, List.length_set, List.length_range, Nat.zero_add]); omega, by (try simp only [List.length_append, List.length_drop, List.length_take, List.length_map, List.length_cons, List.length_nil, List.length_replicate, List.length_set, List.length_range, Nat.zero_add]); omega, by repeat (first | exact al_nil | assumption | refine al_app ?_ ?_ | refine al_drop ?_ | refine al_take ?_ | exact al_map (fun _ => rfl) | exact al_rep rfl | refine al_cons rfl ?_)⟩ ?_; simp only [go_sem, g1, t1, hg] <;> rfl) | (refine ite_run ⟨by (try simp only [List.length_append, List.length_drop, List.length_take, List.length_map, List.length_cons, List.length_nil, List.length_replicate, List.length_set, List.length_range, Nat.zero_add]); omega, by repeat (first | exact al_nil | assumption | refine al_app ?_ ?_ | refine al_drop ?_ | refine al_take ?_ | exact al_map (fun _ => rfl) | exact al_rep rfl | refine al_cons rfl ?_)⟩ ?_; simp only [go_sem, g1, t1, hg] <;> rfl) | rfl) (by simp only [go_sem] <;> rfl) ?_
                refine Run.op (by simp only [go_sem, g1, t1, hg] <;> rfl) (by simp only [go_sem] <;> rfl) ?_
                refine Run.nil ?_
                refine BlkK.nrm ?_
                refine Exec.reg1 ?_
                refine Run.op (by simp only [go_sem, g1, t1, hg] <;> rfl) (by simp only [go_sem] <;> rfl) ?_
                refine Run.op (by simp only [go_sem, g1, t1, hg]; (try simp (disch := omega) only [IntWalk.i64_in, IntWalk.u64_in, if_neg, if_pos])<;> rfl) (by simp only [go_sem] <;> rfl) ?_
                refine Run.op (by simp only [go_sem, g1, t1, hg] <;> rfl) (by simp only [go_sem] <;> rfl) ?_
                refine Run.nil ?_
                refine ForK.nxt ?_ ?_ ?_
                · omega
                · exact Ghost.kp [0, 1, 6, 7] [1000] (by simp only [go_sem, g1, t1, hg]; first | ((repeat' (first | with_reducible_and_instances rfl | refine st_eq ?_ ?_ ?_ | refine ret_eq ?_ | refine tup_eq ?_ | refine tm_eq ?_ ?_ | refine arr_eq ?_ | refine cells_eq ?_ | refine val_eq ?_ | refine ls_eq ?_ ?_ | refine own_eq ?_ ?_ | refine sl_eq ?_ | refine b_eq ?_ | (refine i_eq ?_; omega))); (all_goals (simp [hsu, encSpan]))) | rfl)
                · trivial
        · skip
          have hge : ¬ (k : Int) < turnD (fs.length : Int) := of_decide_eq_false hb18
          have hke : k = (turnD (fs.length : Int)).toNat := by omega
          have hfe : refF fs m k = fitL fs m := refF_fit hf hm (by omega)
          simp only [hfe]
          have hta : List.take (fitL fs m).length (List.map encSpan (fitL fs m)) = List.map encSpan (fitL fs m) := List.take_of_length_le (by simp)
          refine Exec.exitS ?_
          refine ForK.ext ?_
          refine BlkK.hit ?_
          refine Exec.assocS ?_
          refine Exec.reg ?_
          refine Run.frz 1000 (by simp only [go_sem, hta] <;> rfl) ?_
          iterate 3 (refine Run.op (by simp only [go_sem] <;> rfl) (by simp only [go_sem] <;> rfl) ?_)
          refine Run.nil ?_
          refine Exec.cndS (by simp only [go_sem] <;> rfl) (fun hb56 => ?_) (fun hb56 => ?_)
          · skip
            have hn : fitL fs m = [] := List.eq_nil_of_length_eq_zero (Int.ofNat_inj.1 (by simpa using hb56))
            have hr : fitR fs m = ([], 4) := by rw [fit_is hf hm, hn]; rfl
            refine Exec.assocS ?_
            refine Exec.reg ?_
            iterate 2 (refine Run.op (by simp only [go_sem, hr] <;> rfl) (by simp only [go_sem] <;> rfl) ?_)
            refine Run.nild 4 2 (by simp only [go_sem] <;> rfl) (by simp only [go_sem] <;> rfl) ?_
            refine Run.nil ?_
            refine Exec.retS ?_
            exact Ends.fin [] (rs := [.tmp 4, .tmp 5]) rfl (by simp only [go_sem, hr] <;> rfl) (by simp only [go_sem, hr] <;> first | rfl | ((repeat' (first | with_reducible_and_instances rfl | refine st_eq ?_ ?_ ?_ | refine ret_eq ?_ | refine tup_eq ?_ | refine tm_eq ?_ ?_ | refine arr_eq ?_ | refine cells_eq ?_ | refine val_eq ?_ | refine ls_eq ?_ ?_ | refine own_eq ?_ ?_ | refine sl_eq ?_ | refine b_eq ?_ | (refine i_eq ?_; omega))); done))
          · skip
            have hn : ¬ fitL fs m = [] := fun h => by rw [h] at hb56; simp at hb56
            have hr : fitR fs m = (fitL fs m, 0) := by rw [fit_is hf hm, if_neg hn]
            refine Exec.skipS ?_
            refine Exec.reg ?_
            iterate 3 (refine Run.op (by simp only [go_sem, hr] <;> rfl) (by simp only [go_sem] <;> rfl) ?_)
            refine Run.nil ?_
            exact Ends.fin [] (rs := [.tmp 4, .tmp 5]) rfl (by simp only [go_sem, hr] <;> rfl) (by simp only [go_sem, hr] <;> first | rfl | ((repeat' (first | with_reducible_and_instances rfl | refine st_eq ?_ ?_ ?_ | refine ret_eq ?_ | refine tup_eq ?_ | refine tm_eq ?_ ?_ | refine arr_eq ?_ | refine cells_eq ?_ | refine val_eq ?_ | refine ls_eq ?_ ?_ | refine own_eq ?_ ?_ | refine sl_eq ?_ | refine b_eq ?_ | (refine i_eq ?_; omega))); done))

set_option maxRecDepth 20000 in
set_option maxHeartbeats 8000000 in
/-- meterworks/meterworkslaw02.DrumFits -/
theorem c_law_DrumFits (fs : List Int) (m : Int) : Contract Try.prog 4 [.leaf (.d (intsD fs)), .int m] (.bool (true)) [] := by
  refine con_of follows_mixed Try.func4 rfl (by simp only [List.length_cons, List.length_nil, Try.ntmps4]; omega) (by kernel_rfl) rfl ?_
  refine Exec.reg ?_
  refine Run.op (by simp only [go_sem] <;> rfl) (by simp only [go_sem] <;> rfl) ?_
  refine Run.nil ?_
  refine Exec.assocS ?_
  by_cases hc : (fs.length : Int) > 2
  · skip
    have g1 : decide ((fs.length : Int) > 2) = true := decide_eq_true hc
    by_cases hc2 : (fs.length : Int) ≤ 6
    · skip
      have g2 : decide ((fs.length : Int) ≤ 6) = true := decide_eq_true hc2
      refine Exec.reg ?_
      iterate 4 (refine Run.op (by simp only [go_sem, g1, g2] <;> rfl) (by simp only [go_sem] <;> rfl) ?_)
      refine Run.yes (by simp only [go_sem] <;> rfl) (by simp only [go_sem, g1, g2] <;> rfl) (by simp only [go_sem] <;> rfl) ?_
      refine Run.yes (by simp only [go_sem] <;> rfl) (by simp only [go_sem, g1, g2] <;> rfl) (by simp only [go_sem] <;> rfl) ?_
      refine Run.yes (by simp only [go_sem] <;> rfl) (by simp only [go_sem, g1, g2] <;> rfl) (by simp only [go_sem] <;> rfl) ?_
      iterate 2 (refine Run.op (by simp only [go_sem, g1, g2] <;> rfl) (by simp only [go_sem] <;> rfl) ?_)
      refine Run.skp (by simp only [go_sem] <;> rfl) (by simp only [go_sem] <;> rfl) ?_
      refine Run.skp (by simp only [go_sem] <;> rfl) (by simp only [go_sem] <;> rfl) ?_
      refine Run.skp (by simp only [go_sem] <;> rfl) (by simp only [go_sem] <;> rfl) ?_
      refine Run.op (by simp only [go_sem, g1, g2] <;> rfl) (by simp only [go_sem] <;> rfl) ?_
      refine Run.nil ?_
      refine Exec.cndS (by simp only [go_sem, g1, g2] <;> rfl) (fun hb21 => ?_) (fun hb21 => ?_)
      · skip
        refine Exec.assocS ?_
        refine Exec.reg ?_
        refine Run.cal (c_law_awake) (by simp only [go_sem]) (by simp only [go_sem, g1, g2] <;> rfl) (by exact trivial) (fr0) (by simp only [go_sem, g1, g2] <;> rfl) ?_
        refine Run.op (by simp only [go_sem, g1, g2] <;> rfl) (by simp only [go_sem] <;> rfl) ?_
        refine Run.nil ?_
        refine Exec.retS ?_
        exact Ends.fin [] (rs := [.tmp 4]) rfl (by simp only [go_sem, g1, g2] <;> rfl) (by simp only [go_sem, g1, g2] <;> first | rfl | ((repeat' (first | with_reducible_and_instances rfl | refine st_eq ?_ ?_ ?_ | refine ret_eq ?_ | refine tup_eq ?_ | refine tm_eq ?_ ?_ | refine arr_eq ?_ | refine cells_eq ?_ | refine val_eq ?_ | refine ls_eq ?_ ?_ | refine own_eq ?_ ?_ | refine sl_eq ?_ | refine b_eq ?_ | (refine i_eq ?_; omega))); done))
      · exact absurd hb21 (by simp)
    · skip
      have g2 : decide ((fs.length : Int) ≤ 6) = false := decide_eq_false hc2
      have h2 : figsB fs = true → fs.length ≤ 2 := fun h => by have := (figs_iff.1 h).2.2; omega
      refine Exec.reg ?_
      iterate 4 (refine Run.op (by simp only [go_sem, g1, g2] <;> rfl) (by simp only [go_sem] <;> rfl) ?_)
      refine Run.yes (by simp only [go_sem] <;> rfl) (by simp only [go_sem, g1, g2] <;> rfl) (by simp only [go_sem] <;> rfl) ?_
      refine Run.yes (by simp only [go_sem] <;> rfl) (by simp only [go_sem, g1, g2] <;> rfl) (by simp only [go_sem] <;> rfl) ?_
      refine Run.yes (by simp only [go_sem] <;> rfl) (by simp only [go_sem, g1, g2] <;> rfl) (by simp only [go_sem] <;> rfl) ?_
      iterate 2 (refine Run.op (by simp only [go_sem, g1, g2] <;> rfl) (by simp only [go_sem] <;> rfl) ?_)
      refine Run.yes (by simp only [go_sem] <;> rfl) (by simp only [go_sem, g1, g2] <;> rfl) (by simp only [go_sem] <;> rfl) ?_
      refine Run.yes (by simp only [go_sem] <;> rfl) (by simp only [go_sem, g1, g2] <;> rfl) (by simp only [go_sem] <;> rfl) ?_
      refine Run.yes (by simp only [go_sem] <;> rfl) (by simp only [go_sem, g1, g2] <;> rfl) (by simp only [go_sem] <;> rfl) ?_
      refine Run.op (by simp only [go_sem, g1, g2] <;> rfl) (by simp only [go_sem] <;> rfl) ?_
      refine Run.nil ?_
      refine Exec.cndS (by simp only [go_sem, g1, g2] <;> rfl) (fun hb21 => ?_) (fun hb21 => ?_)
      · skip
        refine Exec.assocS ?_
        refine Exec.reg ?_
        refine Run.cal (c_law_awake) (by simp only [go_sem]) (by simp only [go_sem, g1, g2] <;> rfl) (by exact trivial) (fr0) (by simp only [go_sem, g1, g2] <;> rfl) ?_
        refine Run.op (by simp only [go_sem, g1, g2] <;> rfl) (by simp only [go_sem] <;> rfl) ?_
        refine Run.nil ?_
        refine Exec.retS ?_
        exact Ends.fin [] (rs := [.tmp 4]) rfl (by simp only [go_sem, g1, g2] <;> rfl) (by simp only [go_sem, g1, g2] <;> first | rfl | ((repeat' (first | with_reducible_and_instances rfl | refine st_eq ?_ ?_ ?_ | refine ret_eq ?_ | refine tup_eq ?_ | refine tm_eq ?_ ?_ | refine arr_eq ?_ | refine cells_eq ?_ | refine val_eq ?_ | refine ls_eq ?_ ?_ | refine own_eq ?_ ?_ | refine sl_eq ?_ | refine b_eq ?_ | (refine i_eq ?_; omega))); done))
      · skip
        have hl : fs.length ≤ 1000 := by have := of_decide_eq_false hb21; omega
        refine Exec.skipS ?_
        refine Exec.reg ?_
        iterate 2 (refine Run.op (by simp only [go_sem, g1, g2, decide_true, beq_self_eq_true] <;> rfl) (by simp only [go_sem] <;> rfl) ?_)
        refine Run.cal (c_drum_Fit fs m hl) (by simp only [go_sem]) (by simp only [go_sem, g1, g2, decide_true, beq_self_eq_true] <;> rfl) (by exact ⟨by first | exact WkR.pure rfl | exact WkR.nil _ | exact WkR.int (by first | omega | (simp; done) | (simp; omega)), by first | exact WkR.pure rfl | exact WkR.nil _ | exact WkR.int (by first | omega | (simp; done) | (simp; omega)), trivial⟩) (fr0) (by simp only [go_sem, g1, g2, decide_true, beq_self_eq_true] <;> rfl) ?_
        iterate 5 (refine Run.op (by simp only [go_sem, g1, g2, decide_true, beq_self_eq_true] <;> rfl) (by simp only [go_sem] <;> rfl) ?_)
        refine Run.nil ?_
        refine Exec.reg ?_
        iterate 2 (refine Run.op (by simp only [go_sem, g1, g2, decide_true, beq_self_eq_true] <;> rfl) (by simp only [go_sem] <;> rfl) ?_)
        refine Run.cal (c_meterworksref02_Fit fs m hl h2) (by simp only [go_sem]) (by simp only [go_sem, g1, g2, decide_true, beq_self_eq_true] <;> rfl) (by exact ⟨by first | exact WkR.pure rfl | exact WkR.nil _ | exact WkR.int (by first | omega | (simp; done) | (simp; omega)), by first | exact WkR.pure rfl | exact WkR.nil _ | exact WkR.int (by first | omega | (simp; done) | (simp; omega)), trivial⟩) (fr0) (by simp only [go_sem, g1, g2, decide_true, beq_self_eq_true] <;> rfl) ?_
        iterate 5 (refine Run.op (by simp only [go_sem, g1, g2, decide_true, beq_self_eq_true] <;> rfl) (by simp only [go_sem] <;> rfl) ?_)
        refine Run.nil ?_
        refine Exec.reg ?_
        iterate 2 (refine Run.op (by simp only [go_sem, g1, g2, decide_true, beq_self_eq_true] <;> rfl) (by simp only [go_sem] <;> rfl) ?_)
        refine Run.cal (c_meterworksref02_Spans ((fitR fs m).1) ((fitR fs m).1) (by have := len_fit fs m; omega) (by have := len_fit fs m; omega)) (by simp only [go_sem]) (by simp only [go_sem, g1, g2, decide_true, beq_self_eq_true] <;> rfl) (by exact ⟨by first | exact WkR.pure rfl | exact WkR.nil _ | exact WkR.int (by first | omega | (simp; done) | (simp; omega)), by first | exact WkR.pure rfl | exact WkR.nil _ | exact WkR.int (by first | omega | (simp; done) | (simp; omega)), trivial⟩) (fr0) (by simp only [go_sem, g1, g2, decide_true, beq_self_eq_true] <;> rfl) ?_
        refine Run.op (by simp only [go_sem, g1, g2, decide_true, beq_self_eq_true] <;> rfl) (by simp only [go_sem] <;> rfl) ?_
        refine Run.yes (by simp only [go_sem] <;> rfl) (by simp only [go_sem, g1, g2, decide_true, beq_self_eq_true] <;> rfl) (by simp only [go_sem] <;> rfl) ?_
        refine Run.yes (by simp only [go_sem] <;> rfl) (by simp only [go_sem, g1, g2, decide_true, beq_self_eq_true] <;> rfl) (by simp only [go_sem] <;> rfl) ?_
        refine Run.yes (by simp only [go_sem] <;> rfl) (by simp only [go_sem, g1, g2, decide_true, beq_self_eq_true] <;> rfl) (by simp only [go_sem] <;> rfl) ?_
        iterate 2 (refine Run.op (by simp only [go_sem, g1, g2, decide_true, beq_self_eq_true] <;> rfl) (by simp only [go_sem] <;> rfl) ?_)
        refine Run.calw (by simp only [go_sem] <;> rfl) (c_law_awake) (by simp only [go_sem]) (by simp only [go_sem, g1, g2, decide_true, beq_self_eq_true] <;> rfl) (by simp only [go_sem, g1, g2, decide_true, beq_self_eq_true] <;> rfl) (by exact trivial) (fr0) (by simp only [go_sem, g1, g2, decide_true, beq_self_eq_true] <;> rfl) ?_
        iterate 2 (refine Run.op (by simp only [go_sem, g1, g2, decide_true, beq_self_eq_true] <;> rfl) (by simp only [go_sem] <;> rfl) ?_)
        refine Run.nil ?_
        exact Ends.fin [] (rs := [.tmp 4]) rfl (by simp only [go_sem, g1, g2, decide_true, beq_self_eq_true] <;> rfl) (by simp only [go_sem, g1, g2, decide_true, beq_self_eq_true] <;> first | rfl | ((repeat' (first | with_reducible_and_instances rfl | refine st_eq ?_ ?_ ?_ | refine ret_eq ?_ | refine tup_eq ?_ | refine tm_eq ?_ ?_ | refine arr_eq ?_ | refine cells_eq ?_ | refine val_eq ?_ | refine ls_eq ?_ ?_ | refine own_eq ?_ ?_ | refine sl_eq ?_ | refine b_eq ?_ | (refine i_eq ?_; omega))); done))
  · skip
    have g1 : decide ((fs.length : Int) > 2) = false := decide_eq_false hc
    have h2 : figsB fs = true → fs.length ≤ 2 := fun _ => by omega
    refine Exec.reg ?_
    iterate 4 (refine Run.op (by simp only [go_sem, g1] <;> rfl) (by simp only [go_sem] <;> rfl) ?_)
    refine Run.skp (by simp only [go_sem] <;> rfl) (by simp only [go_sem] <;> rfl) ?_
    refine Run.skp (by simp only [go_sem] <;> rfl) (by simp only [go_sem] <;> rfl) ?_
    refine Run.skp (by simp only [go_sem] <;> rfl) (by simp only [go_sem] <;> rfl) ?_
    iterate 2 (refine Run.op (by simp only [go_sem, g1] <;> rfl) (by simp only [go_sem] <;> rfl) ?_)
    refine Run.yes (by simp only [go_sem] <;> rfl) (by simp only [go_sem, g1] <;> rfl) (by simp only [go_sem] <;> rfl) ?_
    refine Run.yes (by simp only [go_sem] <;> rfl) (by simp only [go_sem, g1] <;> rfl) (by simp only [go_sem] <;> rfl) ?_
    refine Run.yes (by simp only [go_sem] <;> rfl) (by simp only [go_sem, g1] <;> rfl) (by simp only [go_sem] <;> rfl) ?_
    refine Run.op (by simp only [go_sem, g1] <;> rfl) (by simp only [go_sem] <;> rfl) ?_
    refine Run.nil ?_
    refine Exec.cndS (by simp only [go_sem, g1] <;> rfl) (fun hb21 => ?_) (fun hb21 => ?_)
    · skip
      refine Exec.assocS ?_
      refine Exec.reg ?_
      refine Run.cal (c_law_awake) (by simp only [go_sem]) (by simp only [go_sem, g1] <;> rfl) (by exact trivial) (fr0) (by simp only [go_sem, g1] <;> rfl) ?_
      refine Run.op (by simp only [go_sem, g1] <;> rfl) (by simp only [go_sem] <;> rfl) ?_
      refine Run.nil ?_
      refine Exec.retS ?_
      exact Ends.fin [] (rs := [.tmp 4]) rfl (by simp only [go_sem, g1] <;> rfl) (by simp only [go_sem, g1] <;> first | rfl | ((repeat' (first | with_reducible_and_instances rfl | refine st_eq ?_ ?_ ?_ | refine ret_eq ?_ | refine tup_eq ?_ | refine tm_eq ?_ ?_ | refine arr_eq ?_ | refine cells_eq ?_ | refine val_eq ?_ | refine ls_eq ?_ ?_ | refine own_eq ?_ ?_ | refine sl_eq ?_ | refine b_eq ?_ | (refine i_eq ?_; omega))); done))
    · skip
      have hl : fs.length ≤ 1000 := by have := of_decide_eq_false hb21; omega
      refine Exec.skipS ?_
      refine Exec.reg ?_
      iterate 2 (refine Run.op (by simp only [go_sem, g1, decide_true, beq_self_eq_true] <;> rfl) (by simp only [go_sem] <;> rfl) ?_)
      refine Run.cal (c_drum_Fit fs m hl) (by simp only [go_sem]) (by simp only [go_sem, g1, decide_true, beq_self_eq_true] <;> rfl) (by exact ⟨by first | exact WkR.pure rfl | exact WkR.nil _ | exact WkR.int (by first | omega | (simp; done) | (simp; omega)), by first | exact WkR.pure rfl | exact WkR.nil _ | exact WkR.int (by first | omega | (simp; done) | (simp; omega)), trivial⟩) (fr0) (by simp only [go_sem, g1, decide_true, beq_self_eq_true] <;> rfl) ?_
      iterate 5 (refine Run.op (by simp only [go_sem, g1, decide_true, beq_self_eq_true] <;> rfl) (by simp only [go_sem] <;> rfl) ?_)
      refine Run.nil ?_
      refine Exec.reg ?_
      iterate 2 (refine Run.op (by simp only [go_sem, g1, decide_true, beq_self_eq_true] <;> rfl) (by simp only [go_sem] <;> rfl) ?_)
      refine Run.cal (c_meterworksref02_Fit fs m hl h2) (by simp only [go_sem]) (by simp only [go_sem, g1, decide_true, beq_self_eq_true] <;> rfl) (by exact ⟨by first | exact WkR.pure rfl | exact WkR.nil _ | exact WkR.int (by first | omega | (simp; done) | (simp; omega)), by first | exact WkR.pure rfl | exact WkR.nil _ | exact WkR.int (by first | omega | (simp; done) | (simp; omega)), trivial⟩) (fr0) (by simp only [go_sem, g1, decide_true, beq_self_eq_true] <;> rfl) ?_
      iterate 5 (refine Run.op (by simp only [go_sem, g1, decide_true, beq_self_eq_true] <;> rfl) (by simp only [go_sem] <;> rfl) ?_)
      refine Run.nil ?_
      refine Exec.reg ?_
      iterate 2 (refine Run.op (by simp only [go_sem, g1, decide_true, beq_self_eq_true] <;> rfl) (by simp only [go_sem] <;> rfl) ?_)
      refine Run.cal (c_meterworksref02_Spans ((fitR fs m).1) ((fitR fs m).1) (by have := len_fit fs m; omega) (by have := len_fit fs m; omega)) (by simp only [go_sem]) (by simp only [go_sem, g1, decide_true, beq_self_eq_true] <;> rfl) (by exact ⟨by first | exact WkR.pure rfl | exact WkR.nil _ | exact WkR.int (by first | omega | (simp; done) | (simp; omega)), by first | exact WkR.pure rfl | exact WkR.nil _ | exact WkR.int (by first | omega | (simp; done) | (simp; omega)), trivial⟩) (fr0) (by simp only [go_sem, g1, decide_true, beq_self_eq_true] <;> rfl) ?_
      refine Run.op (by simp only [go_sem, g1, decide_true, beq_self_eq_true] <;> rfl) (by simp only [go_sem] <;> rfl) ?_
      refine Run.yes (by simp only [go_sem] <;> rfl) (by simp only [go_sem, g1, decide_true, beq_self_eq_true] <;> rfl) (by simp only [go_sem] <;> rfl) ?_
      refine Run.yes (by simp only [go_sem] <;> rfl) (by simp only [go_sem, g1, decide_true, beq_self_eq_true] <;> rfl) (by simp only [go_sem] <;> rfl) ?_
      refine Run.yes (by simp only [go_sem] <;> rfl) (by simp only [go_sem, g1, decide_true, beq_self_eq_true] <;> rfl) (by simp only [go_sem] <;> rfl) ?_
      iterate 2 (refine Run.op (by simp only [go_sem, g1, decide_true, beq_self_eq_true] <;> rfl) (by simp only [go_sem] <;> rfl) ?_)
      refine Run.calw (by simp only [go_sem] <;> rfl) (c_law_awake) (by simp only [go_sem]) (by simp only [go_sem, g1, decide_true, beq_self_eq_true] <;> rfl) (by simp only [go_sem, g1, decide_true, beq_self_eq_true] <;> rfl) (by exact trivial) (fr0) (by simp only [go_sem, g1, decide_true, beq_self_eq_true] <;> rfl) ?_
      iterate 2 (refine Run.op (by simp only [go_sem, g1, decide_true, beq_self_eq_true] <;> rfl) (by simp only [go_sem] <;> rfl) ?_)
      refine Run.nil ?_
      exact Ends.fin [] (rs := [.tmp 4]) rfl (by simp only [go_sem, g1, decide_true, beq_self_eq_true] <;> rfl) (by simp only [go_sem, g1, decide_true, beq_self_eq_true] <;> first | rfl | ((repeat' (first | with_reducible_and_instances rfl | refine st_eq ?_ ?_ ?_ | refine ret_eq ?_ | refine tup_eq ?_ | refine tm_eq ?_ ?_ | refine arr_eq ?_ | refine cells_eq ?_ | refine val_eq ?_ | refine ls_eq ?_ ?_ | refine own_eq ?_ ?_ | refine sl_eq ?_ | refine b_eq ?_ | (refine i_eq ?_; omega))); done))

end Go.Mw
namespace Go.Mw
open Go.Proofs
open Go.Dr
attribute [local go_sem] decide_true beq_self_eq_true bne_self_eq_false
theorem any_takeS {p : Go.Dr.Span → Bool} {l : List Go.Dr.Span} {k : Nat} {x : Go.Dr.Span} (h : l[k]? = some x) : (l.take (k + 1)).any p = ((l.take k).any p || p x) := by
  rw [take_succ_snoc h, List.any_append]; simp
theorem run_err (r : Reg) (l : List Int) : (runR r l).2.2 = errD r l := by
  unfold runR
  split
  · rename_i h; exact h.symm
  · rfl
/-- The figure that is read of a drum: the one before its place, or the next one. -/
def rdX (f : Nat → Bool) (t : Int) (k : Nat) : Int := if f k = true then (placeD t k / 1000 + 1) % 10 else placeD t k / 1000
def readD (f : Nat → Bool) (t : Int) (k : Nat) : List Int := (List.range k).map (rdX f t)
def isD (f : Nat → Bool) (t m : Int) (k : Nat) : Bool := (List.range k).all fun j => withinB (placeD t j) (rdX f t j) m
theorem readD_zero (f : Nat → Bool) (t : Int) : readD f t 0 = [] := rfl
theorem isD_zero (f : Nat → Bool) (t m : Int) : isD f t m 0 = true := rfl
theorem readD_succ (f : Nat → Bool) (t : Int) (k : Nat) : readD f t (k + 1) = readD f t k ++ [rdX f t k] := by unfold readD; rw [List.range_succ, List.map_append]; rfl
theorem isD_succ (f : Nat → Bool) (t m : Int) (k : Nat) : isD f t m (k + 1) = (isD f t m k && withinB (placeD t k) (rdX f t k) m) := by unfold isD; rw [List.range_succ, List.all_append]; simp
theorem readD_len (f : Nat → Bool) (t : Int) (k : Nat) : (readD f t k).length = k := by unfold readD; simp
theorem rdX_in (f : Nat → Bool) (t : Int) (k : Nat) : 0 ≤ rdX f t k ∧ rdX f t k ≤ 9 := by
  have := place_bnd t k
  unfold rdX; split <;> omega
theorem readD_figs (f : Nat → Bool) (t : Int) {n : Nat} (hn : 1 ≤ n ∧ n ≤ 6) : figsB (readD f t n) = true := by
  rw [figs_iff, readD_len]
  refine ⟨fun x hx => ?_, hn⟩
  unfold readD at hx
  obtain ⟨k, _, rfl⟩ := List.mem_map.1 hx
  exact rdX_in f t k
theorem readD_fits (f : Nat → Bool) (t m : Int) (n : Nat) : fitsB (readD f t n) t m = isD f t m n := by
  have hg : ∀ k, k < n → (readD f t n)[k]? = some (rdX f t k) := fun k hk => by unfold readD; simp [hk]
  rw [Bool.eq_iff_iff, fits_iff]
  unfold isD
  rw [List.all_eq_true]
  constructor
  · intro h k hk
    exact h k _ (hg k (List.mem_range.1 hk))
  · intro h k x hx
    have hk : k < n := by have := (List.getElem?_eq_some_iff.1 hx).1; rw [readD_len] at this; exact this
    rw [hg k hk] at hx
    cases hx
    exact h k (List.mem_range.2 hk)
def bitF (n : Nat) (k : Nat) : Bool := IntKind.u8.wrap (BitVec.ofInt IntKind.u8.bits (Int.fdiv (n : Int) (2 ^ min ((k : Int)).toNat IntKind.u8.bits)) &&& BitVec.ofInt IntKind.u8.bits 1).toNat == 1
set_option maxRecDepth 20000 in
set_option maxHeartbeats 64000000 in
/-- meterworks/meterworkslaw02.DrumTrue -/
theorem c_law_DrumTrue (r : Reg) (l : List Int) (bN wN : Nat) (b1 : bN ≤ 255) (b2 : wN ≤ 65535) : Contract Try.prog 5 [regV r, .leaf (.d (intsD l)), .raw (.int .u8 (bN : Int)), .raw (.int .u16 (wN : Int))] (.bool true) [] := by
  refine con_of follows_mixed Try.func5 rfl (by simp only [List.length_cons, List.length_nil, Try.ntmps5]; omega) (by kernel_rfl) rfl ?_
  refine Exec.reg ?_
  iterate 2 (refine Run.op (by simp only [go_sem] <;> rfl) (by simp only [go_sem] <;> rfl) ?_)
  refine Run.nil ?_
  refine Exec.assocS ?_
  refine Exec.reg ?_
  iterate 3 (refine Run.op (by simp only [go_sem] <;> rfl) (by simp only [go_sem] <;> rfl) ?_)
  refine Run.nil ?_
  refine Exec.cndS (by simp only [go_sem] <;> rfl) (fun hb26 => ?_) (fun hb26 => ?_)
  · skip
    refine Exec.assocS ?_
    refine Exec.reg ?_
    refine Run.cal (c_law_awake) (by simp only [go_sem]) (by simp only [go_sem] <;> rfl) (by exact trivial) (fr0) (by simp only [go_sem] <;> rfl) ?_
    refine Run.op (by simp only [go_sem] <;> rfl) (by simp only [go_sem] <;> rfl) ?_
    refine Run.nil ?_
    refine Exec.retS ?_
    exact Ends.fin [] (rs := [.tmp 8]) rfl (by simp only [go_sem] <;> rfl) (by simp only [go_sem] <;> first | rfl | ((repeat' (first | with_reducible_and_instances rfl | refine st_eq ?_ ?_ ?_ | refine ret_eq ?_ | refine tup_eq ?_ | refine tm_eq ?_ ?_ | refine arr_eq ?_ | refine cells_eq ?_ | refine val_eq ?_ | refine ls_eq ?_ ?_ | refine own_eq ?_ ?_ | refine sl_eq ?_ | refine b_eq ?_ | (refine i_eq ?_; omega))); done))
  have hl : l.length ≤ 1000 := by have := of_decide_eq_false hb26; omega
  have hre := run_err r l
  refine Exec.skipS ?_
  refine Exec.reg ?_
  refine Run.op (by simp only [go_sem, hre] <;> rfl) (by simp only [go_sem] <;> rfl) ?_
  refine Run.op (by simp only [go_sem] <;> rfl) (by simp only [go_sem] <;> rfl) ?_
  refine Run.cal (c_drum_Run r l hl) (by simp only [go_sem]) (by simp only [go_sem, hre] <;> rfl) (by exact ⟨by first | exact WkR.pure rfl | exact WkR.nil _ | exact WkR.int (by first | omega | (simp; done) | (simp; omega)), by first | exact WkR.pure rfl | exact WkR.nil _ | exact WkR.int (by first | omega | (simp; done) | (simp; omega)), trivial⟩) (fr0) (by simp only [go_sem, hre] <;> rfl) ?_
  refine Run.op (by simp only [go_sem] <;> rfl) (by simp only [go_sem] <;> rfl) ?_
  iterate 3 (refine Run.op (by simp only [go_sem, hre] <;> rfl) (by simp only [go_sem] <;> rfl) ?_)
  iterate 3 (refine Run.op (by simp only [go_sem] <;> rfl) (by simp only [go_sem] <;> rfl) ?_)
  refine Run.nil ?_
  refine Exec.assocS ?_
  refine Exec.reg ?_
  refine Run.op (by simp only [go_sem] <;> rfl) (by simp only [go_sem] <;> rfl) ?_
  refine Run.op (by simp only [go_sem, hre] <;> rfl) (by simp only [go_sem] <;> rfl) ?_
  refine Run.nil ?_
  refine Exec.cndS (by simp only [go_sem, hre] <;> rfl) (fun hb36 => ?_) (fun hb36 => ?_)
  · skip
    have he : ¬ errD r l = 0 := by simpa using hb36
    have hrun : runR r l = (0, [], errD r l) := if_neg he
    refine Exec.assocS ?_
    refine Exec.reg ?_
    refine Run.op (by simp only [go_sem] <;> rfl) (by simp only [go_sem] <;> rfl) ?_
    iterate 2 (refine Run.op (by simp only [go_sem, hrun, List.length_nil] <;> rfl) (by simp only [go_sem] <;> rfl) ?_)
    refine Run.yes (by simp only [go_sem] <;> rfl) (by simp only [go_sem] <;> rfl) (by simp only [go_sem] <;> rfl) ?_
    iterate 2 (refine Run.yes (by simp only [go_sem] <;> rfl) (by simp only [go_sem, hrun, List.length_nil] <;> rfl) (by simp only [go_sem] <;> rfl) ?_)
    iterate 2 (refine Run.op (by simp only [go_sem, hrun, List.length_nil] <;> rfl) (by simp only [go_sem] <;> rfl) ?_)
    refine Run.calw (by simp only [go_sem] <;> rfl) (c_law_awake) (by simp only [go_sem]) (by simp only [go_sem, hrun, List.length_nil] <;> rfl) (by simp only [go_sem, hrun, List.length_nil] <;> rfl) (by exact trivial) (fr0) (by simp only [go_sem, hrun, List.length_nil] <;> rfl) ?_
    refine Run.op (by simp only [go_sem, hrun, List.length_nil] <;> rfl) (by simp only [go_sem] <;> rfl) ?_
    refine Run.op (by simp only [go_sem] <;> rfl) (by simp only [go_sem] <;> rfl) ?_
    refine Run.nil ?_
    refine Exec.retS ?_
    exact Ends.fin [] (rs := [.tmp 8]) rfl (by simp only [go_sem, hrun, List.length_nil] <;> rfl) (by simp only [go_sem, hrun, List.length_nil] <;> first | rfl | ((repeat' (first | with_reducible_and_instances rfl | refine st_eq ?_ ?_ ?_ | refine ret_eq ?_ | refine tup_eq ?_ | refine tm_eq ?_ ?_ | refine arr_eq ?_ | refine cells_eq ?_ | refine val_eq ?_ | refine ls_eq ?_ ?_ | refine own_eq ?_ ?_ | refine sl_eq ?_ | refine b_eq ?_ | (refine i_eq ?_; omega))); done))
  have he : errD r l = 0 := by simpa using hb36
  have hrun := run_zero he
  obtain ⟨hreg, hl32, hlb⟩ := err_zero he
  have hq := reg_iff.1 hreg
  have htb := turn_bnd hq.1.2
  have htot := total_bnd hreg l
  have hpr : placesR r (totalD r l) = (placesD r.drums.toNat (totalD r l), 0) := by unfold placesR; rw [if_neg (by simp [hreg]), if_neg (by simp [inD_iff.2 (show 0 ≤ (totalD r l) ∧ (totalD r l) ≤ turnD r.drums - 1 by omega)])]
  have hpl := places_len r.drums.toNat (totalD r l)
  have hdn : ((r.drums.toNat : Nat) : Int) = r.drums := by omega
  have hsf := shown_fits r.drums.toNat (totalD r l)
  obtain ⟨wM, hwM⟩ : ∃ x, wN % 1000 = x := ⟨_, rfl⟩
  have hw3 : wM < 1000 := by rw [← hwM]; exact Nat.mod_lt _ (by omega)
  have f1 : ((wN : Nat) : Int).tmod 1000 = (wM : Int) := by rw [← hwM]; exact (Int.ofNat_tmod wN 1000).symm
  have hui : IntKind.i64.wrap (wN : Int) = (wN : Int) := IntWalk.i64_in _ (by omega)
  refine Exec.skipS ?_
  refine Exec.reg ?_
  refine Run.op (by simp only [go_sem, hrun, hpr, hreg, hpl, hdn, hsf, Bool.not_true, f1, hui] <;> rfl) (by simp only [go_sem] <;> rfl) ?_
  refine Run.op (by simp only [go_sem] <;> rfl) (by simp only [go_sem] <;> rfl) ?_
  refine Run.cal (c_drum_Places r (totalD r l)) (by simp only [go_sem]) (by simp only [go_sem, hrun, hpr, hreg, hpl, hdn, hsf, Bool.not_true, f1, hui] <;> rfl) (by exact ⟨by first | exact WkR.pure rfl | exact WkR.nil _ | exact WkR.int (by first | omega | (simp; done) | (simp; omega)), by first | exact WkR.pure rfl | exact WkR.nil _ | exact WkR.int (by first | omega | (simp; done) | (simp; omega)), trivial⟩) (fr0) (by simp only [go_sem, hrun, hpr, hreg, hpl, hdn, hsf, Bool.not_true, f1, hui] <;> rfl) ?_
  refine Run.op (by simp only [go_sem] <;> rfl) (by simp only [go_sem] <;> rfl) ?_
  iterate 2 (refine Run.op (by simp only [go_sem, hrun, hpr, hreg, hpl, hdn, hsf, Bool.not_true, f1, hui] <;> rfl) (by simp only [go_sem] <;> rfl) ?_)
  iterate 2 (refine Run.op (by simp only [go_sem] <;> rfl) (by simp only [go_sem] <;> rfl) ?_)
  refine Run.nil ?_
  refine Exec.assocS ?_
  refine Exec.reg ?_
  refine Run.op (by simp only [go_sem, hrun, hpr, hreg, hpl, hdn, hsf, Bool.not_true, f1, hui] <;> rfl) (by simp only [go_sem] <;> rfl) ?_
  refine Run.cal (c_meterworksref02_Register r) (by simp only [go_sem]) (by simp only [go_sem, hrun, hpr, hreg, hpl, hdn, hsf, Bool.not_true, f1, hui] <;> rfl) (by exact ⟨by first | exact WkR.pure rfl | exact WkR.nil _ | exact WkR.int (by first | omega | (simp; done) | (simp; omega)), trivial⟩) (fr0) (by simp only [go_sem, hrun, hpr, hreg, hpl, hdn, hsf, Bool.not_true, f1, hui] <;> rfl) ?_
  iterate 2 (refine Run.op (by simp only [go_sem, hrun, hpr, hreg, hpl, hdn, hsf, Bool.not_true, f1, hui] <;> rfl) (by simp only [go_sem] <;> rfl) ?_)
  refine Run.yes (by simp only [go_sem] <;> rfl) (by simp only [go_sem] <;> rfl) (by simp only [go_sem] <;> rfl) ?_
  refine Run.yes (by simp only [go_sem] <;> rfl) (by simp only [go_sem, hrun, hpr, hreg, hpl, hdn, hsf, Bool.not_true, f1, hui] <;> rfl) (by simp only [go_sem] <;> rfl) ?_
  iterate 2 (refine Run.op (by simp only [go_sem, hrun, hpr, hreg, hpl, hdn, hsf, Bool.not_true, f1, hui] <;> rfl) (by simp only [go_sem] <;> rfl) ?_)
  refine Run.yes (by simp only [go_sem] <;> rfl) (by simp only [go_sem] <;> rfl) (by simp only [go_sem] <;> rfl) ?_
  refine Run.yes (by simp only [go_sem] <;> rfl) (by simp only [go_sem, hrun, hpr, hreg, hpl, hdn, hsf, Bool.not_true, f1, hui] <;> rfl) (by simp only [go_sem] <;> rfl) ?_
  refine Run.yes (by simp only [go_sem] <;> rfl) (by simp only [go_sem] <;> rfl) (by simp only [go_sem] <;> rfl) ?_
  iterate 2 (refine Run.yes (by simp only [go_sem] <;> rfl) (by simp only [go_sem, hrun, hpr, hreg, hpl, hdn, hsf, Bool.not_true, f1, hui] <;> rfl) (by simp only [go_sem] <;> rfl) ?_)
  iterate 2 (refine Run.op (by simp only [go_sem, hrun, hpr, hreg, hpl, hdn, hsf, Bool.not_true, f1, hui] <;> rfl) (by simp only [go_sem] <;> rfl) ?_)
  refine Run.yes (by simp only [go_sem] <;> rfl) (by simp only [go_sem] <;> rfl) (by simp only [go_sem] <;> rfl) ?_
  refine Run.yes (by simp only [go_sem] <;> rfl) (by simp only [go_sem, hrun, hpr, hreg, hpl, hdn, hsf, Bool.not_true, f1, hui] <;> rfl) (by simp only [go_sem] <;> rfl) ?_
  refine Run.yes (by simp only [go_sem] <;> rfl) (by simp only [go_sem] <;> rfl) (by simp only [go_sem] <;> rfl) ?_
  iterate 2 (refine Run.yes (by simp only [go_sem] <;> rfl) (by simp only [go_sem, hrun, hpr, hreg, hpl, hdn, hsf, Bool.not_true, f1, hui] <;> rfl) (by simp only [go_sem] <;> rfl) ?_)
  iterate 2 (refine Run.op (by simp only [go_sem, hrun, hpr, hreg, hpl, hdn, hsf, Bool.not_true, f1, hui] <;> rfl) (by simp only [go_sem] <;> rfl) ?_)
  iterate 2 (refine Run.yes (by simp only [go_sem] <;> rfl) (by simp only [go_sem] <;> rfl) (by simp only [go_sem] <;> rfl) ?_)
  refine Run.calw (by simp only [go_sem] <;> rfl) (c_meterworksref02_Fits ((placesD r.drums.toNat (totalD r l)).map figD) (totalD r l) 500 (by rw [List.length_map, places_len]; omega) (fun x hx => by obtain ⟨p, hp, rfl⟩ := List.mem_map.1 hx; exact fig_in (places_mem hp)) (by omega) (by decide)) (by simp only [go_sem]) (by simp only [go_sem, hrun, hpr, hreg, hpl, hdn, hsf, Bool.not_true, f1, hui] <;> rfl) (by simp only [go_sem, hrun, hpr, hreg, hpl, hdn, hsf, Bool.not_true, f1, hui] <;> rfl) (by exact ⟨by first | exact WkR.pure rfl | exact WkR.nil _ | exact WkR.int (by first | omega | (simp; done) | (simp; omega)), by first | exact WkR.pure rfl | exact WkR.nil _ | exact WkR.int (by first | omega | (simp; done) | (simp; omega)), by first | exact WkR.pure rfl | exact WkR.nil _ | exact WkR.int (by first | omega | (simp; done) | (simp; omega)), trivial⟩) (fr0) (by simp only [go_sem, hrun, hpr, hreg, hpl, hdn, hsf, Bool.not_true, f1, hui] <;> rfl) ?_
  refine Run.yes (by simp only [go_sem] <;> rfl) (by simp only [go_sem, hrun, hpr, hreg, hpl, hdn, hsf, Bool.not_true, f1, hui] <;> rfl) (by simp only [go_sem] <;> rfl) ?_
  refine Run.op (by simp only [go_sem, hrun, hpr, hreg, hpl, hdn, hsf, Bool.not_true, f1, hui] <;> rfl) (by simp only [go_sem] <;> rfl) ?_
  refine Run.nil ?_
  refine Exec.cndS (by simp only [go_sem, hrun, hpr, hreg, hpl, hdn, hsf, Bool.not_true, f1, hui] <;> rfl) (fun hb79 => ?_) (fun hb79 => ?_)
  · exact absurd hb79 (by simp)
  refine Exec.skipS ?_
  refine Exec.reg ?_
  refine Run.op (by simp only [go_sem] <;> rfl) (by simp only [go_sem] <;> rfl) ?_
  iterate 2 (refine Run.op (by simp only [go_sem, hrun, hpr, hreg, hpl, hdn, hsf, Bool.not_true, f1, hui]; (try simp (disch := omega) only [IntWalk.i64_in, IntWalk.u64_in, if_neg, if_pos])<;> rfl) (by simp only [go_sem] <;> rfl) ?_)
  refine Run.op (by simp only [go_sem] <;> rfl) (by simp only [go_sem] <;> rfl) ?_
  refine Run.nil ?_
  refine Exec.reg ?_
  refine Run.op (by simp only [go_sem] <;> rfl) (by simp only [go_sem] <;> rfl) ?_
  refine Run.nil ?_
  refine Exec.reg ?_
  refine Run.op (by simp only [go_sem] <;> rfl) (by simp only [go_sem] <;> rfl) ?_
  refine Run.nil ?_
  refine Exec.assocS ?_
  refine Exec.reg ?_
  refine Run.nilo 15 1000 3 1 (by simp only [go_sem] <;> rfl) (by simp only [go_sem] <;> rfl) (by omega) (by omega) (by simp only [go_sem] <;> rfl) ?_
  refine Run.op (by simp only [go_sem] <;> rfl) (by simp only [go_sem] <;> rfl) ?_
  refine Run.nil ?_
  refine Exec.blk ?_
  refine Exec.forA [2, 9, 12, 14, 15, 16, 17] [4, 1000] (r.drums.toNat) (fun k => [.slot 17 (.int k), .slot 16 (.bool (isD (bitF bN) (totalD r l) (wM : Int) k)), .slot 15 (.leaf (.own 1000 0 (readD (bitF bN) (totalD r l) k).length (readD (bitF bN) (totalD r l) k).length)), .obj 1000 (.arr 3 1 ((readD (bitF bN) (totalD r l) k).map encInt))]) (fun _ => True) (fun k => by simp only [go_sem] <;> rfl) (by simp only [go_sem, hrun, hpr, hreg, hpl, hdn, hsf, Bool.not_true, f1, hui, readD_zero, isD_zero, List.map_nil, List.length_nil, Int.natCast_zero] <;> rfl) ?_ (fun k hk hX => ?_)
  · trivial
  refine Exec.assocS ?_
  refine Exec.reg ?_
  iterate 2 (refine Run.op (by simp only [go_sem] <;> rfl) (by simp only [go_sem] <;> rfl) ?_)
  iterate 2 (refine Run.op (by simp only [go_sem, hrun, hpr, hreg, hpl, hdn, hsf, Bool.not_true, f1, hui] <;> rfl) (by simp only [go_sem] <;> rfl) ?_)
  refine Run.nil ?_
  refine Exec.cndS (by simp only [go_sem, hrun, hpr, hreg, hpl, hdn, hsf, Bool.not_true, f1, hui] <;> rfl) (fun hb86 => ?_) (fun hb86 => ?_)
  · skip
    have hlt : k < r.drums.toNat := by have := of_decide_eq_true hb86; omega
    have hpg := places_get (totalD r l) hlt
    have hpb := place_bnd (totalD r l) k
    have hrx := rdX_in (bitF bN) (totalD r l) k
    have hrs := readD_succ (bitF bN) (totalD r l) k
    have his := isD_succ (bitF bN) (totalD r l) (wM : Int) k
    have hrl := readD_len (bitF bN) (totalD r l) k
    have g1 : decide (placeD (totalD r l) k < 0) = false := decide_eq_false (by omega)
    have g2 : decide (placeD (totalD r l) k > 9999) = false := decide_eq_false (by omega)
    have e1 : (placeD (totalD r l) k).tdiv 1000 = placeD (totalD r l) k / 1000 := tdiv_e (by omega)
    have hsh : ¬ (k : Int) < 0 := by omega
    refine Exec.skipS ?_
    refine Exec.blk ?_
    refine Exec.reg ?_
    iterate 2 (refine Run.op (by simp only [go_sem] <;> rfl) (by simp only [go_sem] <;> rfl) ?_)
    refine Run.op (by simp only [go_sem, hrun, hpr, hreg, hpl, hdn, hsf, Bool.not_true, f1, hui, hpg, g1, g2, e1, hsh, if_false]; (try simp (disch := omega) only [if_pos]); (try simp only [go_sem, hrun, hpr, hreg, hpl, hdn, hsf, Bool.not_true, f1, hui, hpg, g1, g2, e1, hsh, if_false])<;> rfl) (by simp only [go_sem] <;> rfl) ?_
    refine Run.op (by simp only [go_sem, hrun, hpr, hreg, hpl, hdn, hsf, Bool.not_true, f1, hui, hpg, g1, g2, e1, hsh, if_false] <;> rfl) (by simp only [go_sem] <;> rfl) ?_
    refine Run.op (by simp only [go_sem] <;> rfl) (by simp only [go_sem] <;> rfl) ?_
    refine Run.nil ?_
    refine Exec.assocS ?_
    refine Exec.reg ?_
    refine Run.op (by simp only [go_sem] <;> rfl) (by simp only [go_sem] <;> rfl) ?_
    iterate 2 (refine Run.op (by simp only [go_sem, hrun, hpr, hreg, hpl, hdn, hsf, Bool.not_true, f1, hui, hpg, g1, g2, e1, hsh, if_false] <;> rfl) (by simp only [go_sem] <;> rfl) ?_)
    refine Run.yes (by simp only [go_sem] <;> rfl) (by simp only [go_sem] <;> rfl) (by simp only [go_sem] <;> rfl) ?_
    refine Run.yes (by simp only [go_sem] <;> rfl) (by simp only [go_sem, hrun, hpr, hreg, hpl, hdn, hsf, Bool.not_true, f1, hui, hpg, g1, g2, e1, hsh, if_false] <;> rfl) (by simp only [go_sem] <;> rfl) ?_
    refine Run.op (by simp only [go_sem, hrun, hpr, hreg, hpl, hdn, hsf, Bool.not_true, f1, hui, hpg, g1, g2, e1, hsh, if_false] <;> rfl) (by simp only [go_sem] <;> rfl) ?_
    refine Run.nil ?_
    refine Exec.cndS (by simp only [go_sem, hrun, hpr, hreg, hpl, hdn, hsf, Bool.not_true, f1, hui, hpg, g1, g2, e1, hsh, if_false] <;> rfl) (fun hb98 => ?_) (fun hb98 => ?_)
    · exact absurd hb98 (by simp)
    refine Exec.skipS ?_
    refine Exec.reg ?_
    refine Run.op (by simp only [go_sem] <;> rfl) (by simp only [go_sem] <;> rfl) ?_
    refine Run.op (by simp only [go_sem, hrun, hpr, hreg, hpl, hdn, hsf, Bool.not_true, f1, hui, hpg, g1, g2, e1, hsh, if_false]; (try simp (disch := omega) only [IntWalk.i64_in, IntWalk.u64_in, if_neg, if_pos])<;> rfl) (by simp only [go_sem] <;> rfl) ?_
    refine Run.op (by simp only [go_sem] <;> rfl) (by simp only [go_sem] <;> rfl) ?_
    refine Run.nil ?_
    refine Exec.assocS ?_
    refine Exec.reg ?_
    iterate 2 (refine Run.op (by simp only [go_sem] <;> rfl) (by simp only [go_sem] <;> rfl) ?_)
    iterate 3 (refine Run.op (by simp only [go_sem, hrun, hpr, hreg, hpl, hdn, hsf, Bool.not_true, f1, hui, hpg, g1, g2, e1, hsh, if_false] <;> rfl) (by simp only [go_sem] <;> rfl) ?_)
    refine Run.nil ?_
    refine Exec.cndS (by simp only [go_sem, hrun, hpr, hreg, hpl, hdn, hsf, Bool.not_true, f1, hui, hpg, g1, g2, e1, hsh, if_false] <;> rfl) (fun hb105 => ?_) (fun hb105 => ?_)
    · skip
      have hbt : bitF bN k = true := hb105
      have e2 : (placeD (totalD r l) k / 1000 + 1).tmod 10 = rdX (bitF bN) (totalD r l) k := by unfold rdX; rw [if_pos hbt]; exact tmod_e (by omega)
      refine Exec.reg ?_
      refine Run.op (by simp only [go_sem] <;> rfl) (by simp only [go_sem] <;> rfl) ?_
      iterate 2 (refine Run.op (by simp only [go_sem, hrun, hpr, hreg, hpl, hdn, hsf, Bool.not_true, f1, hui, hpg, g1, g2, e1, hsh, if_false, e2]; (try simp (disch := omega) only [IntWalk.i64_in, IntWalk.u64_in, if_neg, if_pos])<;> rfl) (by simp only [go_sem] <;> rfl) ?_)
      refine Run.op (by simp only [go_sem] <;> rfl) (by simp only [go_sem] <;> rfl) ?_
      refine Run.nil ?_
      refine Exec.reg ?_
      iterate 2 (refine Run.op (by simp only [go_sem] <;> rfl) (by simp only [go_sem] <;> rfl) ?_)
      refine Run.op (by simp only [go_sem, hrun, hpr, hreg, hpl, hdn, hsf, Bool.not_true, f1, hui, hpg, g1, g2, e1, hsh, if_false, e2] <;> rfl) (by simp only [go_sem] <;> rfl) ?_
      refine Run.op (by simp only [go_sem, hrun, hpr, hreg, hpl, hdn, hsf, Bool.not_true, f1, hui, hpg, g1, g2, e1, hsh, if_false, e2]; (try simp (disch := omega) only [if_pos]); (try simp only [go_sem, hrun, hpr, hreg, hpl, hdn, hsf, Bool.not_true, f1, hui, hpg, g1, g2, e1, hsh, if_false, e2]) <;> first | (refine ite_run ⟨by (try simp only [List.length_append, List.length_drop, List.length_take, List.length_map, List.length_cons, List.length_nil, List.length_replicate, List.length_set, List.length_range, Nat.zero_add]); omega, by (try simp only [List.length_append, List.length_drop, List.length_take, List.length_map, List.length_cons, List.length_nil, List.length_replicate, List.length_set, List.length_range, Nat.zero_add]); omega, by repeat (first | exact al_nil | assumption | refine al_app ?_ ?_ | refine al_drop ?_ | refine al_take ?_ | exact al_map (fun _ => rfl) | exact al_rep rfl | refine al_cons rfl ?_)⟩ ?_; simp only [go_sem, hrun, hpr, hreg, hpl, hdn, hsf, Bool.not_true, f1, hui, hpg, g1, g2, e1, hsh, if_false, e2] <;> rfl) | (refine ite_run ⟨by (try simp only [List.length_append, List.length_drop, List.length_take, List.length_map, List.length_cons, List.length_nil, List.length_replicate, List.length_set, List.length_range, Nat.zero_add]); omega, by repeat (first | exact al_nil | assumption | refine al_app ?_ ?_ | refine al_drop ?_ | refine al_take ?_ | exact al_map (fun _ => rfl) | exact al_rep rfl | refine al_cons rfl ?_)⟩ ?_; simp only [go_sem, hrun, hpr, hreg, hpl, hdn, hsf, Bool.not_true, f1, hui, hpg, g1, g2, e1, hsh, if_false, e2] <;> rfl) | rfl) (by simp only [go_sem] <;> rfl) ?_
      refine Run.op (by simp only [go_sem] <;> rfl) (by simp only [go_sem] <;> rfl) ?_
      refine Run.nil ?_
      by_cases hiz : isD (bitF bN) (totalD r l) (wM : Int) k = true
      · skip
        rw [hiz, Bool.true_and] at his
        refine Exec.reg1 ?_
        refine Run.op (by simp only [go_sem] <;> rfl) (by simp only [go_sem] <;> rfl) ?_
        refine Run.op (by simp only [go_sem, hrun, hpr, hreg, hpl, hdn, hsf, Bool.not_true, f1, hui, hpg, g1, g2, e1, hsh, if_false, e2, hiz, his] <;> rfl) (by simp only [go_sem] <;> rfl) ?_
        iterate 3 (refine Run.yes (by simp only [go_sem] <;> rfl) (by simp only [go_sem] <;> rfl) (by simp only [go_sem] <;> rfl) ?_)
        refine Run.calw (by simp only [go_sem] <;> rfl) (c_meterworksref02_Within (placeD (totalD r l) k) (rdX (bitF bN) (totalD r l) k) (wM : Int) hpb hrx (by omega)) (by simp only [go_sem]) (by simp only [go_sem, hrun, hpr, hreg, hpl, hdn, hsf, Bool.not_true, f1, hui, hpg, g1, g2, e1, hsh, if_false, e2, hiz, his] <;> rfl) (by simp only [go_sem, hrun, hpr, hreg, hpl, hdn, hsf, Bool.not_true, f1, hui, hpg, g1, g2, e1, hsh, if_false, e2, hiz, his] <;> rfl) (by exact ⟨by first | exact WkR.pure rfl | exact WkR.nil _ | exact WkR.int (by first | omega | (simp; done) | (simp; omega)), by first | exact WkR.pure rfl | exact WkR.nil _ | exact WkR.int (by first | omega | (simp; done) | (simp; omega)), by first | exact WkR.pure rfl | exact WkR.nil _ | exact WkR.int (by first | omega | (simp; done) | (simp; omega)), trivial⟩) (fr0) (by simp only [go_sem, hrun, hpr, hreg, hpl, hdn, hsf, Bool.not_true, f1, hui, hpg, g1, g2, e1, hsh, if_false, e2, hiz, his] <;> rfl) ?_
        refine Run.op (by simp only [go_sem, hrun, hpr, hreg, hpl, hdn, hsf, Bool.not_true, f1, hui, hpg, g1, g2, e1, hsh, if_false, e2, hiz, his] <;> rfl) (by simp only [go_sem] <;> rfl) ?_
        refine Run.op (by simp only [go_sem] <;> rfl) (by simp only [go_sem] <;> rfl) ?_
        refine Run.nil ?_
        refine BlkK.nrm ?_
        refine Exec.reg1 ?_
        refine Run.op (by simp only [go_sem] <;> rfl) (by simp only [go_sem] <;> rfl) ?_
        refine Run.op (by simp only [go_sem, hrun, hpr, hreg, hpl, hdn, hsf, Bool.not_true, f1, hui, hpg, g1, g2, e1, hsh, if_false, e2, hiz, his]; (try simp (disch := omega) only [IntWalk.i64_in, IntWalk.u64_in, if_neg, if_pos])<;> rfl) (by simp only [go_sem] <;> rfl) ?_
        refine Run.op (by simp only [go_sem] <;> rfl) (by simp only [go_sem] <;> rfl) ?_
        refine Run.nil ?_
        refine ForK.nxt ?_ ?_ ?_
        · omega
        · exact Ghost.kp [2, 9, 12, 14, 15, 16, 17] [4, 1000] (by simp only [go_sem, hrun, hpr, hreg, hpl, hdn, hsf, Bool.not_true, f1, hui, hpg, g1, g2, e1, hsh, if_false, e2, hiz, his]; first | ((repeat' (first | with_reducible_and_instances rfl | refine st_eq ?_ ?_ ?_ | refine ret_eq ?_ | refine tup_eq ?_ | refine tm_eq ?_ ?_ | refine arr_eq ?_ | refine cells_eq ?_ | refine val_eq ?_ | refine ls_eq ?_ ?_ | refine own_eq ?_ ?_ | refine sl_eq ?_ | refine b_eq ?_ | (refine i_eq ?_; omega))); (all_goals (simp [hrs, encInt]))) | rfl)
        · trivial
      have hiz2 : isD (bitF bN) (totalD r l) (wM : Int) k = false := by simpa using hiz
      rw [hiz2, Bool.false_and] at his
      refine Exec.reg1 ?_
      refine Run.op (by simp only [go_sem] <;> rfl) (by simp only [go_sem] <;> rfl) ?_
      refine Run.op (by simp only [go_sem, hrun, hpr, hreg, hpl, hdn, hsf, Bool.not_true, f1, hui, hpg, g1, g2, e1, hsh, if_false, e2, hiz2, his] <;> rfl) (by simp only [go_sem] <;> rfl) ?_
      iterate 4 (refine Run.skp (by simp only [go_sem] <;> rfl) (by simp only [go_sem] <;> rfl) ?_)
      refine Run.op (by simp only [go_sem, hrun, hpr, hreg, hpl, hdn, hsf, Bool.not_true, f1, hui, hpg, g1, g2, e1, hsh, if_false, e2, hiz2, his] <;> rfl) (by simp only [go_sem] <;> rfl) ?_
      refine Run.op (by simp only [go_sem] <;> rfl) (by simp only [go_sem] <;> rfl) ?_
      refine Run.nil ?_
      refine BlkK.nrm ?_
      refine Exec.reg1 ?_
      refine Run.op (by simp only [go_sem] <;> rfl) (by simp only [go_sem] <;> rfl) ?_
      refine Run.op (by simp only [go_sem, hrun, hpr, hreg, hpl, hdn, hsf, Bool.not_true, f1, hui, hpg, g1, g2, e1, hsh, if_false, e2, hiz2, his]; (try simp (disch := omega) only [IntWalk.i64_in, IntWalk.u64_in, if_neg, if_pos])<;> rfl) (by simp only [go_sem] <;> rfl) ?_
      refine Run.op (by simp only [go_sem] <;> rfl) (by simp only [go_sem] <;> rfl) ?_
      refine Run.nil ?_
      refine ForK.nxt ?_ ?_ ?_
      · omega
      · exact Ghost.kp [2, 9, 12, 14, 15, 16, 17] [4, 1000] (by simp only [go_sem, hrun, hpr, hreg, hpl, hdn, hsf, Bool.not_true, f1, hui, hpg, g1, g2, e1, hsh, if_false, e2, hiz2, his]; first | ((repeat' (first | with_reducible_and_instances rfl | refine st_eq ?_ ?_ ?_ | refine ret_eq ?_ | refine tup_eq ?_ | refine tm_eq ?_ ?_ | refine arr_eq ?_ | refine cells_eq ?_ | refine val_eq ?_ | refine ls_eq ?_ ?_ | refine own_eq ?_ ?_ | refine sl_eq ?_ | refine b_eq ?_ | (refine i_eq ?_; omega))); (all_goals (simp [hrs, encInt]))) | rfl)
      · trivial
    have hbt : ¬ bitF bN k = true := by have h9 : bitF bN k = false := hb105
                                        simp [h9]
    have e2 : placeD (totalD r l) k / 1000 = rdX (bitF bN) (totalD r l) k := by unfold rdX; rw [if_neg hbt]
    refine Exec.skipS ?_
    refine Exec.reg ?_
    iterate 2 (refine Run.op (by simp only [go_sem] <;> rfl) (by simp only [go_sem] <;> rfl) ?_)
    refine Run.op (by simp only [go_sem, hrun, hpr, hreg, hpl, hdn, hsf, Bool.not_true, f1, hui, hpg, g1, g2, e1, hsh, if_false, e2] <;> rfl) (by simp only [go_sem] <;> rfl) ?_
    refine Run.op (by simp only [go_sem, hrun, hpr, hreg, hpl, hdn, hsf, Bool.not_true, f1, hui, hpg, g1, g2, e1, hsh, if_false, e2]; (try simp (disch := omega) only [if_pos]); (try simp only [go_sem, hrun, hpr, hreg, hpl, hdn, hsf, Bool.not_true, f1, hui, hpg, g1, g2, e1, hsh, if_false, e2]) <;> first | (refine ite_run ⟨by (try simp only [List.length_append, List.length_drop, List.length_take, List.length_map, List.length_cons, List.length_nil, List.length_replicate, List.length_set, List.length_range, Nat.zero_add]); omega, by (try simp only [List.length_append, List.length_drop, List.length_take, List.length_map, List.length_cons, List.length_nil, List.length_replicate, List.length_set, List.length_range, Nat.zero_add]); omega, by repeat (first | exact al_nil | assumption | refine al_app ?_ ?_ | refine al_drop ?_ | refine al_take ?_ | exact al_map (fun _ => rfl) | exact al_rep rfl | refine al_cons rfl ?_)⟩ ?_; simp only [go_sem, hrun, hpr, hreg, hpl, hdn, hsf, Bool.not_true, f1, hui, hpg, g1, g2, e1, hsh, if_false, e2] <;> rfl) | (refine ite_run ⟨by (try simp only [List.length_append, List.length_drop, List.length_take, List.length_map, List.length_cons, List.length_nil, List.length_replicate, List.length_set, List.length_range, Nat.zero_add]); omega, by repeat (first | exact al_nil | assumption | refine al_app ?_ ?_ | refine al_drop ?_ | refine al_take ?_ | exact al_map (fun _ => rfl) | exact al_rep rfl | refine al_cons rfl ?_)⟩ ?_; simp only [go_sem, hrun, hpr, hreg, hpl, hdn, hsf, Bool.not_true, f1, hui, hpg, g1, g2, e1, hsh, if_false, e2] <;> rfl) | rfl) (by simp only [go_sem] <;> rfl) ?_
    refine Run.op (by simp only [go_sem] <;> rfl) (by simp only [go_sem] <;> rfl) ?_
    refine Run.nil ?_
    by_cases hiz : isD (bitF bN) (totalD r l) (wM : Int) k = true
    · skip
      rw [hiz, Bool.true_and] at his
      refine Exec.reg1 ?_
      refine Run.op (by simp only [go_sem] <;> rfl) (by simp only [go_sem] <;> rfl) ?_
      refine Run.op (by simp only [go_sem, hrun, hpr, hreg, hpl, hdn, hsf, Bool.not_true, f1, hui, hpg, g1, g2, e1, hsh, if_false, e2, hiz, his] <;> rfl) (by simp only [go_sem] <;> rfl) ?_
      iterate 3 (refine Run.yes (by simp only [go_sem] <;> rfl) (by simp only [go_sem] <;> rfl) (by simp only [go_sem] <;> rfl) ?_)
      refine Run.calw (by simp only [go_sem] <;> rfl) (c_meterworksref02_Within (placeD (totalD r l) k) (rdX (bitF bN) (totalD r l) k) (wM : Int) hpb hrx (by omega)) (by simp only [go_sem]) (by simp only [go_sem, hrun, hpr, hreg, hpl, hdn, hsf, Bool.not_true, f1, hui, hpg, g1, g2, e1, hsh, if_false, e2, hiz, his] <;> rfl) (by simp only [go_sem, hrun, hpr, hreg, hpl, hdn, hsf, Bool.not_true, f1, hui, hpg, g1, g2, e1, hsh, if_false, e2, hiz, his] <;> rfl) (by exact ⟨by first | exact WkR.pure rfl | exact WkR.nil _ | exact WkR.int (by first | omega | (simp; done) | (simp; omega)), by first | exact WkR.pure rfl | exact WkR.nil _ | exact WkR.int (by first | omega | (simp; done) | (simp; omega)), by first | exact WkR.pure rfl | exact WkR.nil _ | exact WkR.int (by first | omega | (simp; done) | (simp; omega)), trivial⟩) (fr0) (by simp only [go_sem, hrun, hpr, hreg, hpl, hdn, hsf, Bool.not_true, f1, hui, hpg, g1, g2, e1, hsh, if_false, e2, hiz, his] <;> rfl) ?_
      refine Run.op (by simp only [go_sem, hrun, hpr, hreg, hpl, hdn, hsf, Bool.not_true, f1, hui, hpg, g1, g2, e1, hsh, if_false, e2, hiz, his] <;> rfl) (by simp only [go_sem] <;> rfl) ?_
      refine Run.op (by simp only [go_sem] <;> rfl) (by simp only [go_sem] <;> rfl) ?_
      refine Run.nil ?_
      refine BlkK.nrm ?_
      refine Exec.reg1 ?_
      refine Run.op (by simp only [go_sem] <;> rfl) (by simp only [go_sem] <;> rfl) ?_
      refine Run.op (by simp only [go_sem, hrun, hpr, hreg, hpl, hdn, hsf, Bool.not_true, f1, hui, hpg, g1, g2, e1, hsh, if_false, e2, hiz, his]; (try simp (disch := omega) only [IntWalk.i64_in, IntWalk.u64_in, if_neg, if_pos])<;> rfl) (by simp only [go_sem] <;> rfl) ?_
      refine Run.op (by simp only [go_sem] <;> rfl) (by simp only [go_sem] <;> rfl) ?_
      refine Run.nil ?_
      refine ForK.nxt ?_ ?_ ?_
      · omega
      · exact Ghost.kp [2, 9, 12, 14, 15, 16, 17] [4, 1000] (by simp only [go_sem, hrun, hpr, hreg, hpl, hdn, hsf, Bool.not_true, f1, hui, hpg, g1, g2, e1, hsh, if_false, e2, hiz, his]; first | ((repeat' (first | with_reducible_and_instances rfl | refine st_eq ?_ ?_ ?_ | refine ret_eq ?_ | refine tup_eq ?_ | refine tm_eq ?_ ?_ | refine arr_eq ?_ | refine cells_eq ?_ | refine val_eq ?_ | refine ls_eq ?_ ?_ | refine own_eq ?_ ?_ | refine sl_eq ?_ | refine b_eq ?_ | (refine i_eq ?_; omega))); (all_goals (simp [hrs, encInt]))) | rfl)
      · trivial
    have hiz2 : isD (bitF bN) (totalD r l) (wM : Int) k = false := by simpa using hiz
    rw [hiz2, Bool.false_and] at his
    refine Exec.reg1 ?_
    refine Run.op (by simp only [go_sem] <;> rfl) (by simp only [go_sem] <;> rfl) ?_
    refine Run.op (by simp only [go_sem, hrun, hpr, hreg, hpl, hdn, hsf, Bool.not_true, f1, hui, hpg, g1, g2, e1, hsh, if_false, e2, hiz2, his] <;> rfl) (by simp only [go_sem] <;> rfl) ?_
    iterate 4 (refine Run.skp (by simp only [go_sem] <;> rfl) (by simp only [go_sem] <;> rfl) ?_)
    refine Run.op (by simp only [go_sem, hrun, hpr, hreg, hpl, hdn, hsf, Bool.not_true, f1, hui, hpg, g1, g2, e1, hsh, if_false, e2, hiz2, his] <;> rfl) (by simp only [go_sem] <;> rfl) ?_
    refine Run.op (by simp only [go_sem] <;> rfl) (by simp only [go_sem] <;> rfl) ?_
    refine Run.nil ?_
    refine BlkK.nrm ?_
    refine Exec.reg1 ?_
    refine Run.op (by simp only [go_sem] <;> rfl) (by simp only [go_sem] <;> rfl) ?_
    refine Run.op (by simp only [go_sem, hrun, hpr, hreg, hpl, hdn, hsf, Bool.not_true, f1, hui, hpg, g1, g2, e1, hsh, if_false, e2, hiz2, his]; (try simp (disch := omega) only [IntWalk.i64_in, IntWalk.u64_in, if_neg, if_pos])<;> rfl) (by simp only [go_sem] <;> rfl) ?_
    refine Run.op (by simp only [go_sem] <;> rfl) (by simp only [go_sem] <;> rfl) ?_
    refine Run.nil ?_
    refine ForK.nxt ?_ ?_ ?_
    · omega
    · exact Ghost.kp [2, 9, 12, 14, 15, 16, 17] [4, 1000] (by simp only [go_sem, hrun, hpr, hreg, hpl, hdn, hsf, Bool.not_true, f1, hui, hpg, g1, g2, e1, hsh, if_false, e2, hiz2, his]; first | ((repeat' (first | with_reducible_and_instances rfl | refine st_eq ?_ ?_ ?_ | refine ret_eq ?_ | refine tup_eq ?_ | refine tm_eq ?_ ?_ | refine arr_eq ?_ | refine cells_eq ?_ | refine val_eq ?_ | refine ls_eq ?_ ?_ | refine own_eq ?_ ?_ | refine sl_eq ?_ | refine b_eq ?_ | (refine i_eq ?_; omega))); (all_goals (simp [hrs, encInt]))) | rfl)
    · trivial
  have hke : k = r.drums.toNat := by have := of_decide_eq_false hb86; omega
  subst hke
  have hrl := readD_len (bitF bN) (totalD r l) r.drums.toNat
  have hta : List.take r.drums.toNat (List.map encInt (readD (bitF bN) (totalD r l) r.drums.toNat)) = List.map encInt (readD (bitF bN) (totalD r l) r.drums.toNat) := List.take_of_length_le (by simp [readD_len])
  have hrf := readD_figs (bitF bN) (totalD r l) (n := r.drums.toNat) (by omega)
  have hfi := fit_is hrf (m := (wM : Int)) (by omega)
  have hfn := fit_in hrf (m := (wM : Int)) (t := (totalD r l)) (by omega) (by rw [readD_len]; exact ⟨htot.1, htot.2⟩)
  rw [hfi] at hfn
  have hff := readD_fits (bitF bN) (totalD r l) (wM : Int) r.drums.toNat
  have hSl := len_fit (readD (bitF bN) (totalD r l) r.drums.toNat) (wM : Int)
  rw [hfi] at hSl
  simp only at hSl hfn
  rw [hff] at hfn
  refine Exec.exitS ?_
  refine ForK.ext ?_
  refine BlkK.hit ?_
  refine Exec.reg ?_
  refine Run.frz 1000 (by simp only [go_sem, hta, hrl] <;> rfl) ?_
  iterate 2 (refine Run.op (by simp only [go_sem] <;> rfl) (by simp only [go_sem] <;> rfl) ?_)
  refine Run.cal (c_drum_Fit (readD (bitF bN) (totalD r l) r.drums.toNat) (wM : Int) (by rw [readD_len]; omega)) (by simp only [go_sem]) (by simp only [go_sem, hrun, hpr, hreg, hpl, hdn, hsf, Bool.not_true, f1, hui, hfi] <;> rfl) (by exact ⟨by first | exact WkR.pure rfl | exact WkR.nil _ | exact WkR.int (by first | omega | (simp; done) | (simp; omega)), by first | exact WkR.pure rfl | exact WkR.nil _ | exact WkR.int (by first | omega | (simp; done) | (simp; omega)), trivial⟩) (fr0) (by simp only [go_sem, hrun, hpr, hreg, hpl, hdn, hsf, Bool.not_true, f1, hui, hfi] <;> rfl) ?_
  refine Run.op (by simp only [go_sem] <;> rfl) (by simp only [go_sem] <;> rfl) ?_
  iterate 2 (refine Run.op (by simp only [go_sem, hrun, hpr, hreg, hpl, hdn, hsf, Bool.not_true, f1, hui, hfi] <;> rfl) (by simp only [go_sem] <;> rfl) ?_)
  iterate 2 (refine Run.op (by simp only [go_sem] <;> rfl) (by simp only [go_sem] <;> rfl) ?_)
  refine Run.nil ?_
  refine Exec.reg ?_
  refine Run.op (by simp only [go_sem] <;> rfl) (by simp only [go_sem] <;> rfl) ?_
  refine Run.nil ?_
  refine Exec.assocS ?_
  refine Exec.reg ?_
  refine Run.op (by simp only [go_sem] <;> rfl) (by simp only [go_sem] <;> rfl) ?_
  refine Run.nil ?_
  refine Exec.blk ?_
  refine Exec.forA [9, 16, 20, 21, 22, 23] [] ((fitL (readD (bitF bN) (totalD r l) r.drums.toNat) (wM : Int)).length) (fun k => [.slot 23 (.int k), .slot 22 (.bool (((fitL (readD (bitF bN) (totalD r l) r.drums.toNat) (wM : Int)).take k).any (fun q => decide (q.lo ≤ (totalD r l)) && decide ((totalD r l) ≤ q.hi))))]) (fun _ => True) (fun k => by simp only [go_sem] <;> rfl) (by simp only [go_sem, hrun, hpr, hreg, hpl, hdn, hsf, Bool.not_true, f1, hui, hfi, List.take_zero, List.any_nil, Int.natCast_zero] <;> rfl) ?_ (fun k hk hX => ?_)
  · trivial
  refine Exec.assocS ?_
  refine Exec.reg ?_
  iterate 2 (refine Run.op (by simp only [go_sem] <;> rfl) (by simp only [go_sem] <;> rfl) ?_)
  iterate 2 (refine Run.op (by simp only [go_sem, hrun, hpr, hreg, hpl, hdn, hsf, Bool.not_true, f1, hui, hfi] <;> rfl) (by simp only [go_sem] <;> rfl) ?_)
  refine Run.nil ?_
  refine Exec.cndS (by simp only [go_sem, hrun, hpr, hreg, hpl, hdn, hsf, Bool.not_true, f1, hui, hfi] <;> rfl) (fun hb129 => ?_) (fun hb129 => ?_)
  · skip
    have hlt := lt_of_dec hb129
    obtain ⟨s, hs⟩ : ∃ s, (fitL (readD (bitF bN) (totalD r l) r.drums.toNat) (wM : Int))[k]? = some s := ⟨_, List.getElem?_eq_getElem hlt⟩
    have hny := any_takeS (p := fun q => decide (q.lo ≤ (totalD r l)) && decide ((totalD r l) ≤ q.hi)) hs
    refine Exec.skipS ?_
    refine Exec.blk ?_
    by_cases hfo : ((fitL (readD (bitF bN) (totalD r l) r.drums.toNat) (wM : Int)).take k).any (fun q => decide (q.lo ≤ (totalD r l)) && decide ((totalD r l) ≤ q.hi)) = true
    · skip
      refine Exec.reg1 ?_
      iterate 2 (refine Run.op (by simp only [go_sem, hrun, hpr, hreg, hpl, hdn, hsf, Bool.not_true, f1, hui, hfi, hs, hny, hfo] <;> rfl) (by simp only [go_sem] <;> rfl) ?_)
      iterate 16 (refine Run.skp (by simp only [go_sem] <;> rfl) (by simp only [go_sem] <;> rfl) ?_)
      iterate 2 (refine Run.op (by simp only [go_sem, hrun, hpr, hreg, hpl, hdn, hsf, Bool.not_true, f1, hui, hfi, hs, hny, hfo] <;> rfl) (by simp only [go_sem] <;> rfl) ?_)
      refine Run.nil ?_
      refine BlkK.nrm ?_
      refine Exec.reg1 ?_
      refine Run.op (by simp only [go_sem] <;> rfl) (by simp only [go_sem] <;> rfl) ?_
      refine Run.op (by simp only [go_sem, hrun, hpr, hreg, hpl, hdn, hsf, Bool.not_true, f1, hui, hfi, hs, hny, hfo]; (try simp (disch := omega) only [IntWalk.i64_in, IntWalk.u64_in, if_neg, if_pos])<;> rfl) (by simp only [go_sem] <;> rfl) ?_
      refine Run.op (by simp only [go_sem] <;> rfl) (by simp only [go_sem] <;> rfl) ?_
      refine Run.nil ?_
      refine ForK.nxt ?_ ?_ ?_
      · omega
      · exact Ghost.kp [9, 16, 20, 21, 22, 23] [] (by simp only [go_sem, hrun, hpr, hreg, hpl, hdn, hsf, Bool.not_true, f1, hui, hfi, hs, hny, hfo]; first | ((repeat' (first | with_reducible_and_instances rfl | refine st_eq ?_ ?_ ?_ | refine ret_eq ?_ | refine tup_eq ?_ | refine tm_eq ?_ ?_ | refine arr_eq ?_ | refine cells_eq ?_ | refine val_eq ?_ | refine ls_eq ?_ ?_ | refine own_eq ?_ ?_ | refine sl_eq ?_ | refine b_eq ?_ | (refine i_eq ?_; omega))); (all_goals (simp_all))) | rfl)
      · trivial
    have hfo2 : ((fitL (readD (bitF bN) (totalD r l) r.drums.toNat) (wM : Int)).take k).any (fun q => decide (q.lo ≤ (totalD r l)) && decide ((totalD r l) ≤ q.hi)) = false := by simpa using hfo
    by_cases hll : s.lo ≤ (totalD r l)
    · skip
      have g9 : decide (s.lo ≤ (totalD r l)) = true := decide_eq_true hll
      refine Exec.reg1 ?_
      iterate 2 (refine Run.op (by simp only [go_sem, hrun, hpr, hreg, hpl, hdn, hsf, Bool.not_true, f1, hui, hfi, hs, hny, hfo2, g9] <;> rfl) (by simp only [go_sem] <;> rfl) ?_)
      iterate 2 (refine Run.yes (by simp only [go_sem] <;> rfl) (by simp only [go_sem, hrun, hpr, hreg, hpl, hdn, hsf, Bool.not_true, f1, hui, hfi, hs, hny, hfo2, g9] <;> rfl) (by simp only [go_sem] <;> rfl) ?_)
      refine Run.yes (by simp only [go_sem] <;> rfl) (by simp only [go_sem, hrun, hpr, hreg, hpl, hdn, hsf, Bool.not_true, f1, hui, hfi, hs, hny, hfo2, g9]; (try simp (disch := omega) only [if_pos]); (try simp only [go_sem, hrun, hpr, hreg, hpl, hdn, hsf, Bool.not_true, f1, hui, hfi, hs, hny, hfo2, g9])<;> rfl) (by simp only [go_sem] <;> rfl) ?_
      iterate 8 (refine Run.yes (by simp only [go_sem] <;> rfl) (by simp only [go_sem, hrun, hpr, hreg, hpl, hdn, hsf, Bool.not_true, f1, hui, hfi, hs, hny, hfo2, g9] <;> rfl) (by simp only [go_sem] <;> rfl) ?_)
      refine Run.yes (by simp only [go_sem] <;> rfl) (by simp only [go_sem, hrun, hpr, hreg, hpl, hdn, hsf, Bool.not_true, f1, hui, hfi, hs, hny, hfo2, g9]; (try simp (disch := omega) only [if_pos]); (try simp only [go_sem, hrun, hpr, hreg, hpl, hdn, hsf, Bool.not_true, f1, hui, hfi, hs, hny, hfo2, g9])<;> rfl) (by simp only [go_sem] <;> rfl) ?_
      iterate 4 (refine Run.yes (by simp only [go_sem] <;> rfl) (by simp only [go_sem, hrun, hpr, hreg, hpl, hdn, hsf, Bool.not_true, f1, hui, hfi, hs, hny, hfo2, g9] <;> rfl) (by simp only [go_sem] <;> rfl) ?_)
      iterate 2 (refine Run.op (by simp only [go_sem, hrun, hpr, hreg, hpl, hdn, hsf, Bool.not_true, f1, hui, hfi, hs, hny, hfo2, g9] <;> rfl) (by simp only [go_sem] <;> rfl) ?_)
      refine Run.nil ?_
      refine BlkK.nrm ?_
      refine Exec.reg1 ?_
      refine Run.op (by simp only [go_sem] <;> rfl) (by simp only [go_sem] <;> rfl) ?_
      refine Run.op (by simp only [go_sem, hrun, hpr, hreg, hpl, hdn, hsf, Bool.not_true, f1, hui, hfi, hs, hny, hfo2, g9]; (try simp (disch := omega) only [IntWalk.i64_in, IntWalk.u64_in, if_neg, if_pos])<;> rfl) (by simp only [go_sem] <;> rfl) ?_
      refine Run.op (by simp only [go_sem] <;> rfl) (by simp only [go_sem] <;> rfl) ?_
      refine Run.nil ?_
      refine ForK.nxt ?_ ?_ ?_
      · omega
      · exact Ghost.kp [9, 16, 20, 21, 22, 23] [] (by simp only [go_sem, hrun, hpr, hreg, hpl, hdn, hsf, Bool.not_true, f1, hui, hfi, hs, hny, hfo2, g9]; first | ((repeat' (first | with_reducible_and_instances rfl | refine st_eq ?_ ?_ ?_ | refine ret_eq ?_ | refine tup_eq ?_ | refine tm_eq ?_ ?_ | refine arr_eq ?_ | refine cells_eq ?_ | refine val_eq ?_ | refine ls_eq ?_ ?_ | refine own_eq ?_ ?_ | refine sl_eq ?_ | refine b_eq ?_ | (refine i_eq ?_; omega))); (all_goals (simp_all))) | rfl)
      · trivial
    have g9 : decide (s.lo ≤ (totalD r l)) = false := decide_eq_false hll
    refine Exec.reg1 ?_
    iterate 2 (refine Run.op (by simp only [go_sem, hrun, hpr, hreg, hpl, hdn, hsf, Bool.not_true, f1, hui, hfi, hs, hny, hfo2, g9] <;> rfl) (by simp only [go_sem] <;> rfl) ?_)
    iterate 2 (refine Run.yes (by simp only [go_sem] <;> rfl) (by simp only [go_sem, hrun, hpr, hreg, hpl, hdn, hsf, Bool.not_true, f1, hui, hfi, hs, hny, hfo2, g9] <;> rfl) (by simp only [go_sem] <;> rfl) ?_)
    refine Run.yes (by simp only [go_sem] <;> rfl) (by simp only [go_sem, hrun, hpr, hreg, hpl, hdn, hsf, Bool.not_true, f1, hui, hfi, hs, hny, hfo2, g9]; (try simp (disch := omega) only [if_pos]); (try simp only [go_sem, hrun, hpr, hreg, hpl, hdn, hsf, Bool.not_true, f1, hui, hfi, hs, hny, hfo2, g9])<;> rfl) (by simp only [go_sem] <;> rfl) ?_
    iterate 5 (refine Run.yes (by simp only [go_sem] <;> rfl) (by simp only [go_sem, hrun, hpr, hreg, hpl, hdn, hsf, Bool.not_true, f1, hui, hfi, hs, hny, hfo2, g9] <;> rfl) (by simp only [go_sem] <;> rfl) ?_)
    iterate 7 (refine Run.skp (by simp only [go_sem] <;> rfl) (by simp only [go_sem] <;> rfl) ?_)
    refine Run.yes (by simp only [go_sem] <;> rfl) (by simp only [go_sem, hrun, hpr, hreg, hpl, hdn, hsf, Bool.not_true, f1, hui, hfi, hs, hny, hfo2, g9] <;> rfl) (by simp only [go_sem] <;> rfl) ?_
    iterate 2 (refine Run.op (by simp only [go_sem, hrun, hpr, hreg, hpl, hdn, hsf, Bool.not_true, f1, hui, hfi, hs, hny, hfo2, g9] <;> rfl) (by simp only [go_sem] <;> rfl) ?_)
    refine Run.nil ?_
    refine BlkK.nrm ?_
    refine Exec.reg1 ?_
    refine Run.op (by simp only [go_sem] <;> rfl) (by simp only [go_sem] <;> rfl) ?_
    refine Run.op (by simp only [go_sem, hrun, hpr, hreg, hpl, hdn, hsf, Bool.not_true, f1, hui, hfi, hs, hny, hfo2, g9]; (try simp (disch := omega) only [IntWalk.i64_in, IntWalk.u64_in, if_neg, if_pos])<;> rfl) (by simp only [go_sem] <;> rfl) ?_
    refine Run.op (by simp only [go_sem] <;> rfl) (by simp only [go_sem] <;> rfl) ?_
    refine Run.nil ?_
    refine ForK.nxt ?_ ?_ ?_
    · omega
    · exact Ghost.kp [9, 16, 20, 21, 22, 23] [] (by simp only [go_sem, hrun, hpr, hreg, hpl, hdn, hsf, Bool.not_true, f1, hui, hfi, hs, hny, hfo2, g9]; first | ((repeat' (first | with_reducible_and_instances rfl | refine st_eq ?_ ?_ ?_ | refine ret_eq ?_ | refine tup_eq ?_ | refine tm_eq ?_ ?_ | refine arr_eq ?_ | refine cells_eq ?_ | refine val_eq ?_ | refine ls_eq ?_ ?_ | refine own_eq ?_ ?_ | refine sl_eq ?_ | refine b_eq ?_ | (refine i_eq ?_; omega))); (all_goals (simp_all))) | rfl)
    · trivial
  have hke : k = (fitL (readD (bitF bN) (totalD r l) r.drums.toNat) (wM : Int)).length := by have := ge_of_dec hb129; omega
  subst hke
  refine Exec.exitS ?_
  refine ForK.ext ?_
  refine BlkK.hit ?_
  by_cases hSe : (fitL (readD (bitF bN) (totalD r l) r.drums.toNat) (wM : Int)) = []
  · skip
    have hSn : (fitL (readD (bitF bN) (totalD r l) r.drums.toNat) (wM : Int)).length = 0 := by rw [hSe]; rfl
    refine Exec.reg ?_
    iterate 2 (refine Run.op (by simp only [go_sem] <;> rfl) (by simp only [go_sem] <;> rfl) ?_)
    iterate 2 (refine Run.op (by simp only [go_sem, hrun, hpr, hreg, hpl, hdn, hsf, Bool.not_true, f1, hui, hfi, List.take_length, hfn, hSn, if_pos hSe] <;> rfl) (by simp only [go_sem] <;> rfl) ?_)
    refine Run.yes (by simp only [go_sem] <;> rfl) (by simp only [go_sem] <;> rfl) (by simp only [go_sem] <;> rfl) ?_
    refine Run.yes (by simp only [go_sem] <;> rfl) (by simp only [go_sem, hrun, hpr, hreg, hpl, hdn, hsf, Bool.not_true, f1, hui, hfi, List.take_length, hfn, hSn, if_pos hSe] <;> rfl) (by simp only [go_sem] <;> rfl) ?_
    refine Run.yes (by simp only [go_sem] <;> rfl) (by simp only [go_sem] <;> rfl) (by simp only [go_sem] <;> rfl) ?_
    iterate 3 (refine Run.yes (by simp only [go_sem] <;> rfl) (by simp only [go_sem, hrun, hpr, hreg, hpl, hdn, hsf, Bool.not_true, f1, hui, hfi, List.take_length, hfn, hSn, if_pos hSe] <;> rfl) (by simp only [go_sem] <;> rfl) ?_)
    iterate 2 (refine Run.op (by simp only [go_sem, hrun, hpr, hreg, hpl, hdn, hsf, Bool.not_true, f1, hui, hfi, List.take_length, hfn, hSn, if_pos hSe] <;> rfl) (by simp only [go_sem] <;> rfl) ?_)
    refine Run.yes (by simp only [go_sem] <;> rfl) (by simp only [go_sem] <;> rfl) (by simp only [go_sem] <;> rfl) ?_
    iterate 2 (refine Run.yes (by simp only [go_sem] <;> rfl) (by simp only [go_sem, hrun, hpr, hreg, hpl, hdn, hsf, Bool.not_true, f1, hui, hfi, List.take_length, hfn, hSn, if_pos hSe] <;> rfl) (by simp only [go_sem] <;> rfl) ?_)
    refine Run.yes (by simp only [go_sem] <;> rfl) (by simp only [go_sem] <;> rfl) (by simp only [go_sem] <;> rfl) ?_
    iterate 2 (refine Run.yes (by simp only [go_sem] <;> rfl) (by simp only [go_sem, hrun, hpr, hreg, hpl, hdn, hsf, Bool.not_true, f1, hui, hfi, List.take_length, hfn, hSn, if_pos hSe] <;> rfl) (by simp only [go_sem] <;> rfl) ?_)
    iterate 2 (refine Run.op (by simp only [go_sem, hrun, hpr, hreg, hpl, hdn, hsf, Bool.not_true, f1, hui, hfi, List.take_length, hfn, hSn, if_pos hSe] <;> rfl) (by simp only [go_sem] <;> rfl) ?_)
    refine Run.calw (by simp only [go_sem] <;> rfl) (c_law_awake) (by simp only [go_sem]) (by simp only [go_sem, hrun, hpr, hreg, hpl, hdn, hsf, Bool.not_true, f1, hui, hfi, List.take_length, hfn, hSn, if_pos hSe] <;> rfl) (by simp only [go_sem, hrun, hpr, hreg, hpl, hdn, hsf, Bool.not_true, f1, hui, hfi, List.take_length, hfn, hSn, if_pos hSe] <;> rfl) (by exact trivial) (fr0) (by simp only [go_sem, hrun, hpr, hreg, hpl, hdn, hsf, Bool.not_true, f1, hui, hfi, List.take_length, hfn, hSn, if_pos hSe] <;> rfl) ?_
    refine Run.op (by simp only [go_sem, hrun, hpr, hreg, hpl, hdn, hsf, Bool.not_true, f1, hui, hfi, List.take_length, hfn, hSn, if_pos hSe] <;> rfl) (by simp only [go_sem] <;> rfl) ?_
    refine Run.op (by simp only [go_sem] <;> rfl) (by simp only [go_sem] <;> rfl) ?_
    refine Run.nil ?_
    exact Ends.fin [] (rs := [.tmp 8]) rfl (by simp only [go_sem, hrun, hpr, hreg, hpl, hdn, hsf, Bool.not_true, f1, hui, hfi, List.take_length, hfn, hSn, if_pos hSe] <;> rfl) (by simp only [go_sem, hrun, hpr, hreg, hpl, hdn, hsf, Bool.not_true, f1, hui, hfi, List.take_length, hfn, hSn, if_pos hSe] <;> first | rfl | ((repeat' (first | with_reducible_and_instances rfl | refine st_eq ?_ ?_ ?_ | refine ret_eq ?_ | refine tup_eq ?_ | refine tm_eq ?_ ?_ | refine arr_eq ?_ | refine cells_eq ?_ | refine val_eq ?_ | refine ls_eq ?_ ?_ | refine own_eq ?_ ?_ | refine sl_eq ?_ | refine b_eq ?_ | (refine i_eq ?_; omega))); done))
  have hSp : decide (((fitL (readD (bitF bN) (totalD r l) r.drums.toNat) (wM : Int)).length : Int) > 0) = true := decide_eq_true (by have := List.length_pos_iff.2 hSe; omega)
  refine Exec.reg ?_
  iterate 2 (refine Run.op (by simp only [go_sem] <;> rfl) (by simp only [go_sem] <;> rfl) ?_)
  iterate 2 (refine Run.op (by simp only [go_sem, hrun, hpr, hreg, hpl, hdn, hsf, Bool.not_true, f1, hui, hfi, List.take_length, hfn, hSp, if_neg hSe] <;> rfl) (by simp only [go_sem] <;> rfl) ?_)
  refine Run.yes (by simp only [go_sem] <;> rfl) (by simp only [go_sem] <;> rfl) (by simp only [go_sem] <;> rfl) ?_
  refine Run.yes (by simp only [go_sem] <;> rfl) (by simp only [go_sem, hrun, hpr, hreg, hpl, hdn, hsf, Bool.not_true, f1, hui, hfi, List.take_length, hfn, hSp, if_neg hSe] <;> rfl) (by simp only [go_sem] <;> rfl) ?_
  refine Run.yes (by simp only [go_sem] <;> rfl) (by simp only [go_sem] <;> rfl) (by simp only [go_sem] <;> rfl) ?_
  iterate 3 (refine Run.yes (by simp only [go_sem] <;> rfl) (by simp only [go_sem, hrun, hpr, hreg, hpl, hdn, hsf, Bool.not_true, f1, hui, hfi, List.take_length, hfn, hSp, if_neg hSe] <;> rfl) (by simp only [go_sem] <;> rfl) ?_)
  iterate 2 (refine Run.op (by simp only [go_sem, hrun, hpr, hreg, hpl, hdn, hsf, Bool.not_true, f1, hui, hfi, List.take_length, hfn, hSp, if_neg hSe] <;> rfl) (by simp only [go_sem] <;> rfl) ?_)
  refine Run.yes (by simp only [go_sem] <;> rfl) (by simp only [go_sem] <;> rfl) (by simp only [go_sem] <;> rfl) ?_
  iterate 2 (refine Run.yes (by simp only [go_sem] <;> rfl) (by simp only [go_sem, hrun, hpr, hreg, hpl, hdn, hsf, Bool.not_true, f1, hui, hfi, List.take_length, hfn, hSp, if_neg hSe] <;> rfl) (by simp only [go_sem] <;> rfl) ?_)
  iterate 2 (refine Run.skp (by simp only [go_sem] <;> rfl) (by simp only [go_sem] <;> rfl) ?_)
  refine Run.yes (by simp only [go_sem] <;> rfl) (by simp only [go_sem, hrun, hpr, hreg, hpl, hdn, hsf, Bool.not_true, f1, hui, hfi, List.take_length, hfn, hSp, if_neg hSe] <;> rfl) (by simp only [go_sem] <;> rfl) ?_
  iterate 2 (refine Run.op (by simp only [go_sem, hrun, hpr, hreg, hpl, hdn, hsf, Bool.not_true, f1, hui, hfi, List.take_length, hfn, hSp, if_neg hSe] <;> rfl) (by simp only [go_sem] <;> rfl) ?_)
  refine Run.calw (by simp only [go_sem] <;> rfl) (c_law_awake) (by simp only [go_sem]) (by simp only [go_sem, hrun, hpr, hreg, hpl, hdn, hsf, Bool.not_true, f1, hui, hfi, List.take_length, hfn, hSp, if_neg hSe] <;> rfl) (by simp only [go_sem, hrun, hpr, hreg, hpl, hdn, hsf, Bool.not_true, f1, hui, hfi, List.take_length, hfn, hSp, if_neg hSe] <;> rfl) (by exact trivial) (fr0) (by simp only [go_sem, hrun, hpr, hreg, hpl, hdn, hsf, Bool.not_true, f1, hui, hfi, List.take_length, hfn, hSp, if_neg hSe] <;> rfl) ?_
  refine Run.op (by simp only [go_sem, hrun, hpr, hreg, hpl, hdn, hsf, Bool.not_true, f1, hui, hfi, List.take_length, hfn, hSp, if_neg hSe] <;> rfl) (by simp only [go_sem] <;> rfl) ?_
  refine Run.op (by simp only [go_sem] <;> rfl) (by simp only [go_sem] <;> rfl) ?_
  refine Run.nil ?_
  exact Ends.fin [] (rs := [.tmp 8]) rfl (by simp only [go_sem, hrun, hpr, hreg, hpl, hdn, hsf, Bool.not_true, f1, hui, hfi, List.take_length, hfn, hSp, if_neg hSe] <;> rfl) (by simp only [go_sem, hrun, hpr, hreg, hpl, hdn, hsf, Bool.not_true, f1, hui, hfi, List.take_length, hfn, hSp, if_neg hSe] <;> first | rfl | ((repeat' (first | with_reducible_and_instances rfl | refine st_eq ?_ ?_ ?_ | refine ret_eq ?_ | refine tup_eq ?_ | refine tm_eq ?_ ?_ | refine arr_eq ?_ | refine cells_eq ?_ | refine val_eq ?_ | refine ls_eq ?_ ?_ | refine own_eq ?_ ?_ | refine sl_eq ?_ | refine b_eq ?_ | (refine i_eq ?_; omega))); done))

end Go.Mw
namespace Go.Mw
open Go.RowKit Go.ChangeShapes Go.WideShapes
section
variable {H : Type} {enc : TypeId × Value → H} {P : Program} {w : World} {base : Nat} {spare : Nat → Bool} {held : Bool} {v : Value} {d : DataW H} {ps : List MemPlace} {t : TypeId}
theorem u32_read {b0 : Nat} {r : Reach} (ht : P.underlying t = some (.int .u32)) (hv : Value.okWide P w r b0 t v) (h : DataW.Trod enc P w base spare held t v d ps) :
    ∃ n : Nat, n ≤ 4294967295 ∧ RepV (fun b _ => b < w.heap.size) noVal (look []) w (.leaf (.d (.raw (.int .u32 (n : Int))))) v := by
  obtain ⟨n, hw, hr⟩ := int_read ht hv h
  have h2 : 0 ≤ n ∧ n ≤ 4294967295 := by
    simp only [Lit.wf, Bool.and_eq_true, decide_eq_true_eq] at hw
    have e1 : IntKind.u32.min = 0 := by decide
    have e2 : IntKind.u32.max = 4294967295 := by decide
    omega
  refine ⟨n.toNat, by omega, ?_⟩
  rw [show ((n.toNat : Nat) : Int) = n by omega]
  exact hr
theorem u16_read {b0 : Nat} {r : Reach} (ht : P.underlying t = some (.int .u16)) (hv : Value.okWide P w r b0 t v) (h : DataW.Trod enc P w base spare held t v d ps) :
    ∃ n : Nat, n ≤ 65535 ∧ RepV (fun b _ => b < w.heap.size) noVal (look []) w (.leaf (.d (.raw (.int .u16 (n : Int))))) v := by
  obtain ⟨n, hw, hr⟩ := int_read ht hv h
  have h2 : 0 ≤ n ∧ n ≤ 65535 := by
    simp only [Lit.wf, Bool.and_eq_true, decide_eq_true_eq] at hw
    have e1 : IntKind.u16.min = 0 := by decide
    have e2 : IntKind.u16.max = 65535 := by decide
    omega
  refine ⟨n.toNat, by omega, ?_⟩
  rw [show ((n.toNat : Nat) : Int) = n by omega]
  exact hr
end
end Go.Mw

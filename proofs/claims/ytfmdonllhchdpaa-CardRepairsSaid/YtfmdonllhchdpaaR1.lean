/- The statements about the card. -/
import Derived.Test.YtfmdonllhchdpaaB10
import Derived.Test.YtfmdonllhchdpaaB4
import Derived.Test.YtfmdonllhchdpaaB3
set_option linter.unusedSimpArgs false
set_option linter.unusedVariables false
set_option linter.unusedSectionVars false
set_option linter.deprecated false
namespace Go.Mw
open Go.Proofs
theorem great_no {w : Walk} {n : Int} (h : greatB w n = false) : (w.rates.length ≤ 14 ∧ w.readings.length ≤ 32) ∧ ((w.readings.length : Int) ≤ n ∨ 24 < w.readings.length) := by
  unfold greatB at h
  simp only [Bool.or_eq_false_iff, Bool.and_eq_false_iff, decide_eq_false_iff_not] at h
  omega
theorem h20_great {w : Walk} {n : Int} (h : greatB w n = false) (hn : n ≤ 30) : walkB w = true → ∀ h, (ofS w h).length ≤ 39 := fun hw => by
  have h1 := great_no h
  have h2 := walk_len hw
  exact h20_of (by omega)
theorem len_all {w : Walk} (hw : walkB w = true) : (allS w).length ≤ 1000 := by
  have hn := (walk_len hw).2.2
  have b1 := len_swN hn w.readings.length
  have b2 := len_cpN w w.readings.length
  have b3 := len_ltN w w.readings.length
  unfold allS
  rw [List.length_append, List.length_append]
  omega
end Go.Mw
namespace Go.Mw
open Go.Proofs
set_option maxRecDepth 20000 in
/-- meterworks/meterworksref12.before -/
theorem c_meterworksref12_before (w : Walk) (a0 : Nat) (h1 : w.rates.length ≤ 1000) (h2 : w.readings.length ≤ 1000) (hl : a0 < w.readings.length) : Contract Try.prog 49 [walkV w, .int a0] (.int (optI (befS w a0))) [] := by
  have hol := len_ofS w (rd w a0).house
  have hs := rd_get hl
  refine con_of follows_mixed Try.func49 rfl (by simp only [List.length_cons, List.length_nil, Try.ntmps49]; omega) (by kernel_rfl) rfl ?_
  refine Exec.reg ?_
  iterate 2 (refine Run.op (by simp only [go_sem, hs] <;> rfl) (by simp only [go_sem] <;> rfl) ?_)
  refine Run.nil ?_
  refine Exec.opk 11 ?_
  refine OpenK.op (by simp only [go_sem, hs] <;> rfl) (by simp only [go_sem] <;> rfl) (by simp only [go_sem] <;> rfl) ?_
  refine OpenK.op (by simp only [go_sem, hs] <;> rfl) (by simp only [go_sem] <;> rfl) (by simp only [go_sem] <;> rfl) ?_
  refine OpenK.op (by simp only [go_sem, hs] <;> rfl) (by simp only [go_sem] <;> rfl) (by simp only [go_sem] <;> rfl) ?_
  refine OpenK.op (by simp only [go_sem, hs] <;> rfl) (by simp only [go_sem] <;> rfl) (by simp only [go_sem] <;> rfl) ?_
  refine OpenK.op (by simp only [go_sem, hs]; (try simp (disch := omega) only [if_pos]); (try simp only [go_sem, hs])<;> rfl) (by simp only [go_sem] <;> rfl) (by simp only [go_sem] <;> rfl) ?_
  refine OpenK.op (by simp only [go_sem, hs] <;> rfl) (by simp only [go_sem] <;> rfl) (by simp only [go_sem] <;> rfl) ?_
  refine OpenK.op (by simp only [go_sem, hs] <;> rfl) (by simp only [go_sem] <;> rfl) (by simp only [go_sem] <;> rfl) ?_
  refine OpenK.cal (c_meterworksref12_Of w _ h1 h2) (by simp only [go_sem]) (by simp only [go_sem, hs] <;> rfl) (by exact ⟨by first | exact WkR.pure rfl | exact WkR.nil _ | exact WkR.int (by first | omega | (simp; done) | (simp; omega)), by first | exact WkR.pure rfl | exact WkR.nil _ | exact WkR.int (by first | omega | (simp; done) | (simp; omega)), trivial⟩) (fr0) (by simp only [go_sem, hs] <;> rfl) (by simp only [go_sem] <;> rfl) (by simp only [go_sem] <;> rfl) ?_
  refine OpenK.op (by simp only [go_sem, hs] <;> rfl) (by simp only [go_sem] <;> rfl) (by simp only [go_sem] <;> rfl) ?_
  refine OpenK.nil (OpenE.fin (by decide +kernel) (by decide +kernel) ?_)
  refine Exec.assocS ?_
  refine Exec.reg ?_
  refine Run.op (by simp only [go_sem, hs] <;> rfl) (by simp only [go_sem] <;> rfl) ?_
  refine Run.nil ?_
  refine Exec.blk ?_
  refine Exec.forA [1, 5, 6] [2] ((ofS w (rd w a0).house).length) (fun k => [.slot 6 (.int ((k : Int) + 1))]) (fun k => befS w a0 = befL a0 ((ofS w (rd w a0).house).drop k)) (fun k => by simp only [go_sem] <;> rfl) (by simp only [go_sem, hs] <;> rfl) ?_ (fun k hk hX => ?_)
  · rfl
  · skip
    refine Exec.assocS ?_
    refine Exec.reg ?_
    iterate 4 (refine Run.op (by simp only [go_sem, hs] <;> rfl) (by simp only [go_sem] <;> rfl) ?_)
    refine Run.nil ?_
    refine Exec.cndS (by simp only [go_sem, hs] <;> rfl) (fun hb18 => ?_) (fun hb18 => ?_)
    · skip
      have hlt : k + 1 < (ofS w (rd w a0).house).length := by have := of_decide_eq_true hb18; omega
      obtain ⟨a, ha⟩ : ∃ a, (ofS w (rd w a0).house)[k]? = some a := ⟨_, List.getElem?_eq_getElem (by omega)⟩
      obtain ⟨b, hb⟩ : ∃ b, (ofS w (rd w a0).house)[k + 1]? = some b := ⟨_, List.getElem?_eq_getElem (by omega)⟩
      have hal := (mem_ofS.1 (List.mem_of_getElem? ha)).1
      have hbl := (mem_ofS.1 (List.mem_of_getElem? hb)).1
      have hsa := rd_get hal
      have hsb := rd_get hbl
      have t1 : ((k : Int) + 1 - 1).toNat = k := by omega
      have t2 : ((k : Int) + 1).toNat = k + 1 := by omega
      refine Exec.skipS ?_
      refine Exec.blk ?_
      refine Exec.reg ?_
      iterate 2 (refine Run.op (by simp only [go_sem, hs, ha, hb, hsa, hsb, t1, t2] <;> rfl) (by simp only [go_sem] <;> rfl) ?_)
      refine Run.op (by simp only [go_sem, hs, ha, hb, hsa, hsb, t1, t2]; (try simp (disch := omega) only [if_pos]); (try simp only [go_sem, hs, ha, hb, hsa, hsb, t1, t2])<;> rfl) (by simp only [go_sem] <;> rfl) ?_
      iterate 3 (refine Run.op (by simp only [go_sem, hs, ha, hb, hsa, hsb, t1, t2] <;> rfl) (by simp only [go_sem] <;> rfl) ?_)
      refine Run.nil ?_
      refine Exec.cnd (by simp only [go_sem, hs, ha, hb, hsa, hsb, t1, t2] <;> rfl) (fun hb26 => ?_) (fun hb26 => ?_)
      · skip
        have hr : optI (befS w a0) = (a : Int) := by rw [hX, befL_at ha hb, if_pos (Int.ofNat_inj.1 (by simpa using hb26))]; rfl
        refine Exec.reg ?_
        iterate 2 (refine Run.op (by simp only [go_sem, hs, ha, hb, hsa, hsb, t1, t2, hr] <;> rfl) (by simp only [go_sem] <;> rfl) ?_)
        refine Run.op (by simp only [go_sem, hs, ha, hb, hsa, hsb, t1, t2, hr]; (try simp (disch := omega) only [IntWalk.i64_in, IntWalk.u64_in, if_neg, if_pos])<;> rfl) (by simp only [go_sem] <;> rfl) ?_
        refine Run.op (by simp only [go_sem, hs, ha, hb, hsa, hsb, t1, t2, hr]; (try simp (disch := omega) only [if_pos]); (try simp only [go_sem, hs, ha, hb, hsa, hsb, t1, t2, hr])<;> rfl) (by simp only [go_sem] <;> rfl) ?_
        iterate 2 (refine Run.op (by simp only [go_sem, hs, ha, hb, hsa, hsb, t1, t2, hr] <;> rfl) (by simp only [go_sem] <;> rfl) ?_)
        refine Run.nil ?_
        refine BlkK.ret ?_
        refine ForK.ret ?_
        refine BlkK.ret ?_
        exact Ends.fin [] (rs := [.tmp 4]) rfl (by simp only [go_sem, hs, ha, hb, hsa, hsb, t1, t2, hr] <;> rfl) (by simp only [go_sem, hs, ha, hb, hsa, hsb, t1, t2, hr] <;> first | rfl | ((repeat' (first | with_reducible_and_instances rfl | refine st_eq ?_ ?_ ?_ | refine ret_eq ?_ | refine tup_eq ?_ | refine tm_eq ?_ ?_ | refine arr_eq ?_ | refine cells_eq ?_ | refine val_eq ?_ | refine ls_eq ?_ ?_ | refine own_eq ?_ ?_ | refine sl_eq ?_ | refine b_eq ?_ | (refine i_eq ?_; omega))); done))
      · skip
        refine BlkK.nrm ?_
        refine Exec.reg1 ?_
        refine Run.op (by simp only [go_sem, hs, ha, hb, hsa, hsb, t1, t2] <;> rfl) (by simp only [go_sem] <;> rfl) ?_
        refine Run.op (by simp only [go_sem, hs, ha, hb, hsa, hsb, t1, t2]; (try simp (disch := omega) only [IntWalk.i64_in, IntWalk.u64_in, if_neg, if_pos])<;> rfl) (by simp only [go_sem] <;> rfl) ?_
        refine Run.op (by simp only [go_sem, hs, ha, hb, hsa, hsb, t1, t2] <;> rfl) (by simp only [go_sem] <;> rfl) ?_
        refine Run.nil ?_
        refine ForK.nxt ?_ ?_ ?_
        · omega
        · exact Ghost.kp [1, 5, 6] [2] (by simp only [go_sem, hs, ha, hb, hsa, hsb, t1, t2]; first | ((repeat' (first | with_reducible_and_instances rfl | refine st_eq ?_ ?_ ?_ | refine ret_eq ?_ | refine tup_eq ?_ | refine tm_eq ?_ ?_ | refine arr_eq ?_ | refine cells_eq ?_ | refine val_eq ?_ | refine ls_eq ?_ ?_ | refine own_eq ?_ ?_ | refine sl_eq ?_ | refine b_eq ?_ | (refine i_eq ?_; omega))); done) | rfl)
        · rw [hX, befL_at ha hb, if_neg (fun e => (by simpa using hb26 : ¬ (b : Int) = a0) (by rw [e]))]
    · skip
      have hr : optI (befS w a0) = -1 := by rw [hX, befL_end (by have := of_decide_eq_false hb18; omega)]; rfl
      refine Exec.exitS ?_
      refine ForK.ext ?_
      refine BlkK.hit ?_
      refine Exec.reg ?_
      refine Run.op (by simp only [go_sem, hr] <;> rfl) (by simp only [go_sem] <;> rfl) ?_
      refine Run.nil ?_
      exact Ends.fin [] (rs := [.tmp 4]) rfl (by simp only [go_sem, hr] <;> rfl) (by simp only [go_sem, hr] <;> first | rfl | ((repeat' (first | with_reducible_and_instances rfl | refine st_eq ?_ ?_ ?_ | refine ret_eq ?_ | refine tup_eq ?_ | refine tm_eq ?_ ?_ | refine arr_eq ?_ | refine cells_eq ?_ | refine val_eq ?_ | refine ls_eq ?_ ?_ | refine own_eq ?_ ?_ | refine sl_eq ?_ | refine b_eq ?_ | (refine i_eq ?_; omega))); done))

set_option maxRecDepth 20000 in
set_option maxHeartbeats 4000000 in
/-- meterworks/meterworksref12.Made -/
theorem c_meterworksref12_Made (w : Walk) (x : Repair) (h1 : w.rates.length ≤ 1000) (h2 : w.readings.length ≤ 1000) (hw : walkB w = true) (hxb : -1000 ≤ x.b ∧ x.b ≤ 1000) : Contract Try.prog 31 [walkV w, repairV x] (madeV w x) [] := by
  obtain ⟨kd, a, b, c⟩ := x
  simp only at hxb ⊢
  refine con_of follows_mixed Try.func31 rfl (by simp only [List.length_cons, List.length_nil, Try.ntmps31]; omega) (by kernel_rfl) rfl ?_
  refine Exec.reg ?_
  iterate 4 (refine Run.op (by simp only [go_sem] <;> rfl) (by simp only [go_sem] <;> rfl) ?_)
  refine Run.nil ?_
  refine Exec.reg ?_
  iterate 3 (refine Run.op (by simp only [go_sem] <;> rfl) (by simp only [go_sem] <;> rfl) ?_)
  refine Run.nil ?_
  refine Exec.reg ?_
  iterate 3 (refine Run.op (by simp only [go_sem] <;> rfl) (by simp only [go_sem] <;> rfl) ?_)
  refine Run.op (by simp only [go_sem]; (try simp (disch := omega) only [if_pos]); (try simp only [go_sem]) <;> first | (refine ite_run ⟨by (try simp only [List.length_append, List.length_drop, List.length_take, List.length_map, List.length_cons, List.length_nil, List.length_replicate, List.length_set, List.length_range, Nat.zero_add]); omega, by (try simp only [List.length_append, List.length_drop, List.length_take, List.length_map, List.length_cons, List.length_nil, List.length_replicate, List.length_set, List.length_range, Nat.zero_add]); omega, by repeat (first | exact al_nil | assumption | refine al_app ?_ ?_ | refine al_drop ?_ | refine al_take ?_ | exact al_map (fun _ => rfl) | exact al_rep rfl | refine al_cons rfl ?_)⟩ ?_; simp only [go_sem] <;> rfl) | (refine ite_run ⟨by (try simp only [List.length_append, List.length_drop, List.length_take, List.length_map, List.length_cons, List.length_nil, List.length_replicate, List.length_set, List.length_range, Nat.zero_add]); omega, by repeat (first | exact al_nil | assumption | refine al_app ?_ ?_ | refine al_drop ?_ | refine al_take ?_ | exact al_map (fun _ => rfl) | exact al_rep rfl | refine al_cons rfl ?_)⟩ ?_; simp only [go_sem] <;> rfl) | rfl) (by simp only [go_sem] <;> rfl) ?_
  iterate 2 (refine Run.op (by simp only [go_sem] <;> rfl) (by simp only [go_sem] <;> rfl) ?_)
  refine Run.nil ?_
  refine Exec.assocS ?_
  refine Exec.reg ?_
  iterate 5 (refine Run.op (by simp only [go_sem] <;> rfl) (by simp only [go_sem] <;> rfl) ?_)
  refine Run.op (by simp only [go_sem]; (try simp (disch := omega) only [IntWalk.i64_in, IntWalk.u64_in, if_neg, if_pos])<;> rfl) (by simp only [go_sem] <;> rfl) ?_
  refine Run.cal (c_meterworksref12_in _ _ _) (by simp only [go_sem]) (by simp only [go_sem] <;> rfl) (by exact ⟨by first | exact WkR.pure rfl | exact WkR.nil _ | exact WkR.int (by first | omega | (simp; done) | (simp; omega)), by first | exact WkR.pure rfl | exact WkR.nil _ | exact WkR.int (by first | omega | (simp; done) | (simp; omega)), by first | exact WkR.pure rfl | exact WkR.nil _ | exact WkR.int (by first | omega | (simp; done) | (simp; omega)), trivial⟩) (fr0) (by simp only [go_sem] <;> rfl) ?_
  refine Run.op (by simp only [go_sem] <;> rfl) (by simp only [go_sem] <;> rfl) ?_
  refine Run.nil ?_
  refine Exec.cndS (by simp only [go_sem] <;> rfl) (fun hb24 => ?_) (fun hb24 => ?_)
  · skip
    have hin : inB a 0 ((w.readings.length : Int) - 1) = false := by simpa using hb24
    have hr : madeS w ⟨kd, a, b, c⟩ = none := by unfold madeS; rw [if_pos hin]
    refine Exec.assocS ?_
    refine Exec.reg ?_
    iterate 3 (refine Run.op (by simp only [go_sem, madeV, hr] <;> rfl) (by simp only [go_sem] <;> rfl) ?_)
    refine Run.nil ?_
    refine Exec.retS ?_
    exact Ends.fin [] (rs := [.cell 4 25, .tmp 5]) rfl (by simp only [go_sem, madeV, hr] <;> rfl) (by simp only [go_sem, madeV, hr] <;> first | rfl | ((repeat' (first | with_reducible_and_instances rfl | refine st_eq ?_ ?_ ?_ | refine ret_eq ?_ | refine tup_eq ?_ | refine tm_eq ?_ ?_ | refine arr_eq ?_ | refine cells_eq ?_ | refine val_eq ?_ | refine ls_eq ?_ ?_ | refine own_eq ?_ ?_ | refine sl_eq ?_ | refine b_eq ?_ | (refine i_eq ?_; omega))); done))
  · skip
    have hin : inB a 0 ((w.readings.length : Int) - 1) = true := by simpa using hb24
    have hin' := inB_iff.1 hin
    obtain ⟨a, rfl⟩ : ∃ a' : Nat, a = a' := ⟨a.toNat, by omega⟩
    have hal : a < w.readings.length := by omega
    have hsa := rd_get hal
    have hra := read_ok hw hal
    refine Exec.skipS ?_
    refine Exec.reg ?_
    iterate 4 (refine Run.op (by simp only [go_sem, hsa] <;> rfl) (by simp only [go_sem] <;> rfl) ?_)
    refine Run.op (by simp only [go_sem, hsa]; (try simp (disch := omega) only [if_pos]); (try simp only [go_sem, hsa])<;> rfl) (by simp only [go_sem] <;> rfl) ?_
    iterate 3 (refine Run.op (by simp only [go_sem, hsa] <;> rfl) (by simp only [go_sem] <;> rfl) ?_)
    refine Run.nil ?_
    refine Exec.reg ?_
    iterate 3 (refine Run.op (by simp only [go_sem, hsa] <;> rfl) (by simp only [go_sem] <;> rfl) ?_)
    refine Run.cal (c_meterworksref12_before w a h1 h2 hal) (by simp only [go_sem]) (by simp only [go_sem, hsa] <;> rfl) (by exact ⟨by first | exact WkR.pure rfl | exact WkR.nil _ | exact WkR.int (by first | omega | (simp; done) | (simp; omega)), by first | exact WkR.pure rfl | exact WkR.nil _ | exact WkR.int (by first | omega | (simp; done) | (simp; omega)), trivial⟩) (fr0) (by simp only [go_sem, hsa] <;> rfl) ?_
    refine Run.op (by simp only [go_sem, hsa] <;> rfl) (by simp only [go_sem] <;> rfl) ?_
    refine Run.nil ?_
    refine Exec.assocS ?_
    refine Exec.reg ?_
    iterate 2 (refine Run.op (by simp only [go_sem, hsa] <;> rfl) (by simp only [go_sem] <;> rfl) ?_)
    refine Run.nil ?_
    refine Exec.blk ?_
    refine Exec.reg ?_
    iterate 2 (refine Run.op (by simp only [go_sem, hsa] <;> rfl) (by simp only [go_sem] <;> rfl) ?_)
    refine Run.nil ?_
    refine Exec.cnd (by simp only [go_sem, hsa] <;> rfl) (fun hb38 => ?_) (fun hb38 => ?_)
    · skip
      have hk : kd = 0 := by simpa using hb38
      refine Exec.assocS ?_
      refine Exec.reg ?_
      iterate 4 (refine Run.op (by simp only [go_sem, hsa] <;> rfl) (by simp only [go_sem] <;> rfl) ?_)
      refine Run.op (by simp only [go_sem, hsa]; (try simp (disch := omega) only [IntWalk.i64_in, IntWalk.u64_in, if_neg, if_pos])<;> rfl) (by simp only [go_sem] <;> rfl) ?_
      iterate 3 (refine Run.op (by simp only [go_sem, hsa] <;> rfl) (by simp only [go_sem] <;> rfl) ?_)
      refine Run.op (by simp only [go_sem, hsa]; (try simp (disch := omega) only [IntWalk.i64_in, IntWalk.u64_in, if_neg, if_pos])<;> rfl) (by simp only [go_sem] <;> rfl) ?_
      refine Run.cal (c_meterworksref12_in _ _ _) (by simp only [go_sem]) (by simp only [go_sem, hsa] <;> rfl) (by exact ⟨by first | exact WkR.pure rfl | exact WkR.nil _ | exact WkR.int (by first | omega | (simp; done) | (simp; omega)), by first | exact WkR.pure rfl | exact WkR.nil _ | exact WkR.int (by first | omega | (simp; done) | (simp; omega)), by first | exact WkR.pure rfl | exact WkR.nil _ | exact WkR.int (by first | omega | (simp; done) | (simp; omega)), trivial⟩) (fr0) (by simp only [go_sem, hsa] <;> rfl) ?_
      refine Run.op (by simp only [go_sem, hsa] <;> rfl) (by simp only [go_sem] <;> rfl) ?_
      refine Run.nil ?_
      refine Exec.cndS (by simp only [go_sem, hsa] <;> rfl) (fun hb50 => ?_) (fun hb50 => ?_)
      · skip
        have hin2 : inB b ((a : Int) + 1) ((w.readings.length : Int) - 1) = false := by simpa using hb50
        have hr : madeS w ⟨kd, a, b, c⟩ = none := by unfold madeS; rw [if_neg (by simp [hin])]; simp only [Int.toNat_natCast]; rw [if_pos hk, if_pos hin2]
        refine Exec.assocS ?_
        refine Exec.reg ?_
        iterate 3 (refine Run.op (by simp only [go_sem, hsa, madeV, hr] <;> rfl) (by simp only [go_sem] <;> rfl) ?_)
        refine Run.nil ?_
        refine Exec.retS ?_
        refine BlkK.ret ?_
        exact Ends.fin [] (rs := [.cell 4 25, .tmp 5]) rfl (by simp only [go_sem, hsa, madeV, hr] <;> rfl) (by simp only [go_sem, hsa, madeV, hr] <;> first | rfl | ((repeat' (first | with_reducible_and_instances rfl | refine st_eq ?_ ?_ ?_ | refine ret_eq ?_ | refine tup_eq ?_ | refine tm_eq ?_ ?_ | refine arr_eq ?_ | refine cells_eq ?_ | refine val_eq ?_ | refine ls_eq ?_ ?_ | refine own_eq ?_ ?_ | refine sl_eq ?_ | refine b_eq ?_ | (refine i_eq ?_; omega))); done))
      · skip
        have hin2 : inB b ((a : Int) + 1) ((w.readings.length : Int) - 1) = true := by simpa using hb50
        have hin2' := inB_iff.1 hin2
        obtain ⟨b, rfl⟩ : ∃ b' : Nat, b = b' := ⟨b.toNat, by omega⟩
        have hbl : b < w.readings.length := by omega
        have hsb := rd_get hbl
        have hrb := read_ok hw hbl
        have hab : a ≠ b := by omega
        refine Exec.skipS ?_
        refine Exec.reg ?_
        iterate 4 (refine Run.op (by simp only [go_sem, hsa, hsb, List.getElem?_set_ne hab] <;> rfl) (by simp only [go_sem] <;> rfl) ?_)
        refine Run.op (by simp only [go_sem, hsa, hsb, List.getElem?_set_ne hab]; (try simp (disch := omega) only [if_pos]); (try simp only [go_sem, hsa, hsb, List.getElem?_set_ne hab])<;> rfl) (by simp only [go_sem] <;> rfl) ?_
        iterate 3 (refine Run.op (by simp only [go_sem, hsa, hsb, List.getElem?_set_ne hab] <;> rfl) (by simp only [go_sem] <;> rfl) ?_)
        refine Run.nil ?_
        refine Exec.assocS ?_
        by_cases hd : (rd w a).day = (rd w b).day
        · skip
          have hg : ((rd w a).day != (rd w b).day) = false := by simp [hd]
          refine Exec.reg ?_
          iterate 6 (refine Run.op (by simp only [go_sem, hsa, hsb, List.getElem?_set_ne hab, hg] <;> rfl) (by simp only [go_sem] <;> rfl) ?_)
          refine Run.yes (by simp only [go_sem] <;> rfl) (by simp only [go_sem, hsa, hsb, List.getElem?_set_ne hab, hg] <;> rfl) (by simp only [go_sem] <;> rfl) ?_
          refine Run.yes (by simp only [go_sem] <;> rfl) (by simp only [go_sem, hsa, hsb, List.getElem?_set_ne hab, hg] <;> rfl) (by simp only [go_sem] <;> rfl) ?_
          refine Run.yes (by simp only [go_sem] <;> rfl) (by simp only [go_sem, hsa, hsb, List.getElem?_set_ne hab, hg] <;> rfl) (by simp only [go_sem] <;> rfl) ?_
          refine Run.yes (by simp only [go_sem] <;> rfl) (by simp only [go_sem, hsa, hsb, List.getElem?_set_ne hab, hg] <;> rfl) (by simp only [go_sem] <;> rfl) ?_
          refine Run.yes (by simp only [go_sem] <;> rfl) (by simp only [go_sem, hsa, hsb, List.getElem?_set_ne hab, hg]; (try simp (disch := omega) only [IntWalk.i64_in, IntWalk.u64_in, if_neg, if_pos])<;> rfl) (by simp only [go_sem] <;> rfl) ?_
          refine Run.yes (by simp only [go_sem] <;> rfl) (by simp only [go_sem, hsa, hsb, List.getElem?_set_ne hab, hg] <;> rfl) (by simp only [go_sem] <;> rfl) ?_
          refine Run.yes (by simp only [go_sem] <;> rfl) (by simp only [go_sem, hsa, hsb, List.getElem?_set_ne hab, hg] <;> rfl) (by simp only [go_sem] <;> rfl) ?_
          refine Run.gop (by simp only [go_sem] <;> rfl) (by simp only [go_sem, hsa, hsb, List.getElem?_set_ne hab, hg] <;> rfl) (by simp only [go_sem] <;> rfl) ?_
          refine Run.gop (by simp only [go_sem] <;> rfl) (by simp only [go_sem, hsa, hsb, List.getElem?_set_ne hab, hg] <;> rfl) (by simp only [go_sem] <;> rfl) ?_
          refine Run.gop (by simp only [go_sem] <;> rfl) (by simp only [go_sem, hsa, hsb, List.getElem?_set_ne hab, hg] <;> rfl) (by simp only [go_sem] <;> rfl) ?_
          refine Run.gop (by simp only [go_sem] <;> rfl) (by simp only [go_sem, hsa, hsb, List.getElem?_set_ne hab, hg] <;> rfl) (by simp only [go_sem] <;> rfl) ?_
          refine Run.gop (by simp only [go_sem] <;> rfl) (by simp only [go_sem, hsa, hsb, List.getElem?_set_ne hab, hg]; (try simp (disch := omega) only [IntWalk.i64_in, IntWalk.u64_in, if_neg, if_pos])<;> rfl) (by simp only [go_sem] <;> rfl) ?_
          refine Run.gop (by simp only [go_sem] <;> rfl) (by simp only [go_sem, hsa, hsb, List.getElem?_set_ne hab, hg] <;> rfl) (by simp only [go_sem] <;> rfl) ?_
          refine Run.yes (by simp only [go_sem] <;> rfl) (by simp only [go_sem, hsa, hsb, List.getElem?_set_ne hab, hg] <;> rfl) (by simp only [go_sem] <;> rfl) ?_
          refine Run.op (by simp only [go_sem, hsa, hsb, List.getElem?_set_ne hab, hg] <;> rfl) (by simp only [go_sem] <;> rfl) ?_
          refine Run.nil ?_
          refine Exec.cndS (by simp only [go_sem, hsa, hsb, List.getElem?_set_ne hab, hg] <;> rfl) (fun hb78 => ?_) (fun hb78 => ?_)
          · skip
            have hh : (rd w a).house - (rd w b).house ≠ 1 ∧ (rd w b).house - (rd w a).house ≠ 1 := by simpa using hb78
            have hr : madeS w ⟨kd, a, b, c⟩ = none := by unfold madeS; rw [if_neg (by simp [hin])]; simp only [Int.toNat_natCast]; rw [if_pos hk, if_neg (by simp [hin2]), if_pos (.inr hh)]
            refine Exec.assocS ?_
            refine Exec.reg ?_
            iterate 3 (refine Run.op (by simp only [go_sem, hsa, hsb, List.getElem?_set_ne hab, hg, madeV, hr] <;> rfl) (by simp only [go_sem] <;> rfl) ?_)
            refine Run.nil ?_
            refine Exec.retS ?_
            refine BlkK.ret ?_
            exact Ends.fin [] (rs := [.cell 4 25, .tmp 5]) rfl (by simp only [go_sem, hsa, hsb, List.getElem?_set_ne hab, hg, madeV, hr] <;> rfl) (by simp only [go_sem, hsa, hsb, List.getElem?_set_ne hab, hg, madeV, hr] <;> first | rfl | ((repeat' (first | with_reducible_and_instances rfl | refine st_eq ?_ ?_ ?_ | refine ret_eq ?_ | refine tup_eq ?_ | refine tm_eq ?_ ?_ | refine arr_eq ?_ | refine cells_eq ?_ | refine val_eq ?_ | refine ls_eq ?_ ?_ | refine own_eq ?_ ?_ | refine sl_eq ?_ | refine b_eq ?_ | (refine i_eq ?_; omega))); done))
          · skip
            have hh : ¬ ((rd w a).house - (rd w b).house ≠ 1 ∧ (rd w b).house - (rd w a).house ≠ 1) := fun h => by simp [h.1, h.2] at hb78
            have hr : madeS w ⟨kd, a, b, c⟩ = some ⟨w.rates, (w.readings.set a { rd w a with shows := (rd w b).shows }).set b { rd w b with shows := (rd w a).shows }⟩ := by unfold madeS; rw [if_neg (by simp [hin])]; simp only [Int.toNat_natCast]; rw [if_pos hk, if_neg (by simp [hin2]), if_neg (by simp only [hd]; intro h; rcases h with h | h; exact h rfl; exact hh h)]
            refine Exec.skipS ?_
            refine Exec.reg ?_
            iterate 6 (refine Run.op (by simp only [go_sem, hsa, hsb, List.getElem?_set_ne hab, hg, madeV, hr] <;> rfl) (by simp only [go_sem] <;> rfl) ?_)
            refine Run.op (by simp only [go_sem, hsa, hsb, List.getElem?_set_ne hab, hg, madeV, hr]; (try simp (disch := omega) only [if_pos]); (try simp only [go_sem, hsa, hsb, List.getElem?_set_ne hab, hg, madeV, hr])<;> rfl) (by simp only [go_sem] <;> rfl) ?_
            iterate 2 (refine Run.op (by simp only [go_sem, hsa, hsb, List.getElem?_set_ne hab, hg, madeV, hr] <;> rfl) (by simp only [go_sem] <;> rfl) ?_)
            refine Run.nil ?_
            refine Exec.reg ?_
            iterate 6 (refine Run.op (by simp only [go_sem, hsa, hsb, List.getElem?_set_ne hab, hg, madeV, hr] <;> rfl) (by simp only [go_sem] <;> rfl) ?_)
            refine Run.op (by simp only [go_sem, hsa, hsb, List.getElem?_set_ne hab, hg, madeV, hr]; (try simp (disch := omega) only [if_pos]); (try simp only [go_sem, hsa, hsb, List.getElem?_set_ne hab, hg, madeV, hr])<;> rfl) (by simp only [go_sem] <;> rfl) ?_
            iterate 2 (refine Run.op (by simp only [go_sem, hsa, hsb, List.getElem?_set_ne hab, hg, madeV, hr] <;> rfl) (by simp only [go_sem] <;> rfl) ?_)
            refine Run.nil ?_
            refine Exec.reg ?_
            refine Run.frz 12 (by simp only [go_sem] <;> rfl) ?_
            iterate 3 (refine Run.op (by simp only [go_sem, hsa, hsb, List.getElem?_set_ne hab, hg, madeV, hr] <;> rfl) (by simp only [go_sem] <;> rfl) ?_)
            refine Run.nil ?_
            refine BlkK.ret ?_
            exact Ends.fin [] (rs := [.cell 4 25, .tmp 5]) rfl (by simp only [go_sem, hsa, hsb, List.getElem?_set_ne hab, hg, madeV, hr] <;> rfl) (by simp only [go_sem, hsa, hsb, List.getElem?_set_ne hab, hg, madeV, hr] <;> first | rfl | ((repeat' (first | with_reducible_and_instances rfl | refine st_eq ?_ ?_ ?_ | refine ret_eq ?_ | refine tup_eq ?_ | refine tm_eq ?_ ?_ | refine arr_eq ?_ | refine cells_eq ?_ | refine val_eq ?_ | refine ls_eq ?_ ?_ | refine own_eq ?_ ?_ | refine sl_eq ?_ | refine b_eq ?_ | (refine i_eq ?_; omega))); (refine Eq.trans ?_ (List.take_of_length_le (by simp)).symm; simp [List.map_set, List.map_take, List.map_drop, encReading, show ((a : Int) + 1).toNat = a + 1 from by omega])))
        · skip
          have hg : ((rd w a).day != (rd w b).day) = true := by simp [hd]
          refine Exec.reg ?_
          iterate 6 (refine Run.op (by simp only [go_sem, hsa, hsb, List.getElem?_set_ne hab, hg] <;> rfl) (by simp only [go_sem] <;> rfl) ?_)
          refine Run.skp (by simp only [go_sem] <;> rfl) (by simp only [go_sem] <;> rfl) ?_
          refine Run.skp (by simp only [go_sem] <;> rfl) (by simp only [go_sem] <;> rfl) ?_
          refine Run.skp (by simp only [go_sem] <;> rfl) (by simp only [go_sem] <;> rfl) ?_
          refine Run.skp (by simp only [go_sem] <;> rfl) (by simp only [go_sem] <;> rfl) ?_
          refine Run.skp (by simp only [go_sem] <;> rfl) (by simp only [go_sem] <;> rfl) ?_
          refine Run.skp (by simp only [go_sem] <;> rfl) (by simp only [go_sem] <;> rfl) ?_
          refine Run.skp (by simp only [go_sem] <;> rfl) (by simp only [go_sem] <;> rfl) ?_
          refine Run.skp (by simp only [go_sem] <;> rfl) (by simp only [go_sem] <;> rfl) ?_
          refine Run.skp (by simp only [go_sem] <;> rfl) (by simp only [go_sem] <;> rfl) ?_
          refine Run.skp (by simp only [go_sem] <;> rfl) (by simp only [go_sem] <;> rfl) ?_
          refine Run.skp (by simp only [go_sem] <;> rfl) (by simp only [go_sem] <;> rfl) ?_
          refine Run.skp (by simp only [go_sem] <;> rfl) (by simp only [go_sem] <;> rfl) ?_
          refine Run.skp (by simp only [go_sem] <;> rfl) (by simp only [go_sem] <;> rfl) ?_
          refine Run.skp (by simp only [go_sem] <;> rfl) (by simp only [go_sem] <;> rfl) ?_
          refine Run.op (by simp only [go_sem, hsa, hsb, List.getElem?_set_ne hab, hg] <;> rfl) (by simp only [go_sem] <;> rfl) ?_
          refine Run.nil ?_
          refine Exec.cndS (by simp only [go_sem, hsa, hsb, List.getElem?_set_ne hab, hg] <;> rfl) (fun hb78 => ?_) (fun hb78 => ?_)
          · skip
            have hr : madeS w ⟨kd, a, b, c⟩ = none := by unfold madeS; rw [if_neg (by simp [hin])]; simp only [Int.toNat_natCast]; rw [if_pos hk, if_neg (by simp [hin2]), if_pos (.inl hd)]
            refine Exec.assocS ?_
            refine Exec.reg ?_
            iterate 3 (refine Run.op (by simp only [go_sem, hsa, hsb, List.getElem?_set_ne hab, hg, madeV, hr] <;> rfl) (by simp only [go_sem] <;> rfl) ?_)
            refine Run.nil ?_
            refine Exec.retS ?_
            refine BlkK.ret ?_
            exact Ends.fin [] (rs := [.cell 4 25, .tmp 5]) rfl (by simp only [go_sem, hsa, hsb, List.getElem?_set_ne hab, hg, madeV, hr] <;> rfl) (by simp only [go_sem, hsa, hsb, List.getElem?_set_ne hab, hg, madeV, hr] <;> first | rfl | ((repeat' (first | with_reducible_and_instances rfl | refine st_eq ?_ ?_ ?_ | refine ret_eq ?_ | refine tup_eq ?_ | refine tm_eq ?_ ?_ | refine arr_eq ?_ | refine cells_eq ?_ | refine val_eq ?_ | refine ls_eq ?_ ?_ | refine own_eq ?_ ?_ | refine sl_eq ?_ | refine b_eq ?_ | (refine i_eq ?_; omega))); done))
          · exact absurd hb78 (by simp)
    · skip
      have hk0 : ¬ kd = 0 := by simpa using hb38
      refine Exec.reg ?_
      iterate 2 (refine Run.op (by simp only [go_sem, hsa] <;> rfl) (by simp only [go_sem] <;> rfl) ?_)
      refine Run.nil ?_
      refine Exec.cnd (by simp only [go_sem, hsa] <;> rfl) (fun hb97 => ?_) (fun hb97 => ?_)
      · skip
        have hk : kd = 1 := by simpa using hb97
        refine Exec.assocS ?_
        by_cases hp : ∃ p, befS w a = some p
        · skip
          obtain ⟨p, hp⟩ := hp
          have hpl := befS_lt hp
          have hsp := rd_get hpl
          have ho : optI (befS w a) = (p : Int) := by rw [hp]; rfl
          have hg : decide ((p : Int) < 0) = false := by simp
          have hg2 : decide ((p : Int) ≥ 0) = true := by simp
          refine Exec.opk 15 ?_
          refine OpenK.op (by simp only [go_sem, hsa, ho, hsp, hg, hg2] <;> rfl) (by simp only [go_sem] <;> rfl) (by simp only [go_sem] <;> rfl) ?_
          refine OpenK.op (by simp only [go_sem, hsa, ho, hsp, hg, hg2] <;> rfl) (by simp only [go_sem] <;> rfl) (by simp only [go_sem] <;> rfl) ?_
          refine OpenK.op (by simp only [go_sem, hsa, ho, hsp, hg, hg2] <;> rfl) (by simp only [go_sem] <;> rfl) (by simp only [go_sem] <;> rfl) ?_
          refine OpenK.yes (by simp only [go_sem] <;> rfl) (by simp only [go_sem, hsa, ho, hsp, hg, hg2] <;> rfl) (by simp only [go_sem] <;> rfl) (by simp only [go_sem] <;> rfl) ?_
          refine OpenK.yes (by simp only [go_sem] <;> rfl) (by simp only [go_sem, hsa, ho, hsp, hg, hg2] <;> rfl) (by simp only [go_sem] <;> rfl) (by simp only [go_sem] <;> rfl) ?_
          refine OpenK.yes (by simp only [go_sem] <;> rfl) (by simp only [go_sem, hsa, ho, hsp, hg, hg2] <;> rfl) (by simp only [go_sem] <;> rfl) (by simp only [go_sem] <;> rfl) ?_
          refine OpenK.yes (by simp only [go_sem] <;> rfl) (by simp only [go_sem, hsa, ho, hsp, hg, hg2]; (try simp (disch := omega) only [if_pos]); (try simp only [go_sem, hsa, ho, hsp, hg, hg2])<;> rfl) (by simp only [go_sem] <;> rfl) (by simp only [go_sem] <;> rfl) ?_
          refine OpenK.yes (by simp only [go_sem] <;> rfl) (by simp only [go_sem, hsa, ho, hsp, hg, hg2] <;> rfl) (by simp only [go_sem] <;> rfl) (by simp only [go_sem] <;> rfl) ?_
          refine OpenK.yes (by simp only [go_sem] <;> rfl) (by simp only [go_sem, hsa, ho, hsp, hg, hg2] <;> rfl) (by simp only [go_sem] <;> rfl) (by simp only [go_sem] <;> rfl) ?_
          refine OpenK.yes (by simp only [go_sem] <;> rfl) (by simp only [go_sem, hsa, ho, hsp, hg, hg2] <;> rfl) (by simp only [go_sem] <;> rfl) (by simp only [go_sem] <;> rfl) ?_
          refine OpenK.yes (by simp only [go_sem] <;> rfl) (by simp only [go_sem, hsa, ho, hsp, hg, hg2] <;> rfl) (by simp only [go_sem] <;> rfl) (by simp only [go_sem] <;> rfl) ?_
          refine OpenK.yes (by simp only [go_sem] <;> rfl) (by simp only [go_sem, hsa, ho, hsp, hg, hg2] <;> rfl) (by simp only [go_sem] <;> rfl) (by simp only [go_sem] <;> rfl) ?_
          refine OpenK.op (by simp only [go_sem, hsa, ho, hsp, hg, hg2] <;> rfl) (by simp only [go_sem] <;> rfl) (by simp only [go_sem] <;> rfl) ?_
          refine OpenK.nil (OpenE.fin (by decide +kernel) (by decide +kernel) ?_)
          refine Exec.cndS (by simp only [go_sem, hsa, ho, hsp, hg, hg2] <;> rfl) (fun hb111 => ?_) (fun hb111 => ?_)
          · skip
            have hh : ¬ (rd w p).shows = (rd w a).shows := by simpa using hb111
            have hr : madeS w ⟨kd, a, b, c⟩ = none := by unfold madeS; rw [if_neg (by simp [hin])]; simp only [Int.toNat_natCast]; rw [if_neg hk0, if_pos hk, hp]; simp only; rw [if_neg hh]
            refine Exec.assocS ?_
            refine Exec.reg ?_
            iterate 3 (refine Run.op (by simp only [go_sem, hsa, ho, hsp, hg, hg2, madeV, hr] <;> rfl) (by simp only [go_sem] <;> rfl) ?_)
            refine Run.nil ?_
            refine Exec.retS ?_
            refine BlkK.ret ?_
            exact Ends.fin [] (rs := [.cell 4 25, .tmp 5]) rfl (by simp only [go_sem, hsa, ho, hsp, hg, hg2, madeV, hr] <;> rfl) (by simp only [go_sem, hsa, ho, hsp, hg, hg2, madeV, hr] <;> first | rfl | ((repeat' (first | with_reducible_and_instances rfl | refine st_eq ?_ ?_ ?_ | refine ret_eq ?_ | refine tup_eq ?_ | refine tm_eq ?_ ?_ | refine arr_eq ?_ | refine cells_eq ?_ | refine val_eq ?_ | refine ls_eq ?_ ?_ | refine own_eq ?_ ?_ | refine sl_eq ?_ | refine b_eq ?_ | (refine i_eq ?_; omega))); done))
          · skip
            have hh : (rd w p).shows = (rd w a).shows := by simpa using hb111
            have hr : madeS w ⟨kd, a, b, c⟩ = some ⟨w.rates, w.readings.take a ++ w.readings.drop (a + 1)⟩ := by unfold madeS; rw [if_neg (by simp [hin])]; simp only [Int.toNat_natCast]; rw [if_neg hk0, if_pos hk, hp]; simp only; rw [if_pos hh]
            refine Exec.skipS ?_
            refine Exec.opk 18 ?_
            refine OpenK.op (by simp only [go_sem, hsa, ho, hsp, hg, hg2, madeV, hr] <;> rfl) (by simp only [go_sem] <;> rfl) (by simp only [go_sem] <;> rfl) ?_
            refine OpenK.op (by simp only [go_sem, hsa, ho, hsp, hg, hg2, madeV, hr] <;> rfl) (by simp only [go_sem] <;> rfl) (by simp only [go_sem] <;> rfl) ?_
            refine OpenK.op (by simp only [go_sem, hsa, ho, hsp, hg, hg2, madeV, hr] <;> rfl) (by simp only [go_sem] <;> rfl) (by simp only [go_sem] <;> rfl) ?_
            refine OpenK.op (by simp only [go_sem, hsa, ho, hsp, hg, hg2, madeV, hr] <;> rfl) (by simp only [go_sem] <;> rfl) (by simp only [go_sem] <;> rfl) ?_
            refine OpenK.op (by simp only [go_sem, hsa, ho, hsp, hg, hg2, madeV, hr] <;> rfl) (by simp only [go_sem] <;> rfl) (by simp only [go_sem] <;> rfl) ?_
            refine OpenK.op (by simp only [go_sem, hsa, ho, hsp, hg, hg2, madeV, hr]; (try simp (disch := omega) only [if_pos]); (try simp only [go_sem, hsa, ho, hsp, hg, hg2, madeV, hr])<;> rfl) (by simp only [go_sem] <;> rfl) (by simp only [go_sem] <;> rfl) ?_
            refine OpenK.op (by simp only [go_sem, hsa, ho, hsp, hg, hg2, madeV, hr]; (try simp (disch := omega) only [if_pos]); (try simp only [go_sem, hsa, ho, hsp, hg, hg2, madeV, hr]) <;> first | (refine ite_run ⟨by (try simp only [List.length_append, List.length_drop, List.length_take, List.length_map, List.length_cons, List.length_nil, List.length_replicate, List.length_set, List.length_range, Nat.zero_add]); omega, by (try simp only [List.length_append, List.length_drop, List.length_take, List.length_map, List.length_cons, List.length_nil, List.length_replicate, List.length_set, List.length_range, Nat.zero_add]); omega, by repeat (first | exact al_nil | assumption | refine al_app ?_ ?_ | refine al_drop ?_ | refine al_take ?_ | exact al_map (fun _ => rfl) | exact al_rep rfl | refine al_cons rfl ?_)⟩ ?_; simp only [go_sem, hsa, ho, hsp, hg, hg2, madeV, hr] <;> rfl) | (refine ite_run ⟨by (try simp only [List.length_append, List.length_drop, List.length_take, List.length_map, List.length_cons, List.length_nil, List.length_replicate, List.length_set, List.length_range, Nat.zero_add]); omega, by repeat (first | exact al_nil | assumption | refine al_app ?_ ?_ | refine al_drop ?_ | refine al_take ?_ | exact al_map (fun _ => rfl) | exact al_rep rfl | refine al_cons rfl ?_)⟩ ?_; simp only [go_sem, hsa, ho, hsp, hg, hg2, madeV, hr] <;> rfl) | rfl) (by simp only [go_sem] <;> rfl) (by simp only [go_sem] <;> rfl) ?_
            refine OpenK.op (by simp only [go_sem, hsa, ho, hsp, hg, hg2, madeV, hr] <;> rfl) (by simp only [go_sem] <;> rfl) (by simp only [go_sem] <;> rfl) ?_
            refine OpenK.op (by simp only [go_sem, hsa, ho, hsp, hg, hg2, madeV, hr] <;> rfl) (by simp only [go_sem] <;> rfl) (by simp only [go_sem] <;> rfl) ?_
            refine OpenK.op (by simp only [go_sem, hsa, ho, hsp, hg, hg2, madeV, hr] <;> rfl) (by simp only [go_sem] <;> rfl) (by simp only [go_sem] <;> rfl) ?_
            refine OpenK.op (by simp only [go_sem, hsa, ho, hsp, hg, hg2, madeV, hr] <;> rfl) (by simp only [go_sem] <;> rfl) (by simp only [go_sem] <;> rfl) ?_
            refine OpenK.op (by simp only [go_sem, hsa, ho, hsp, hg, hg2, madeV, hr]; (try simp (disch := omega) only [IntWalk.i64_in, IntWalk.u64_in, if_neg, if_pos])<;> rfl) (by simp only [go_sem] <;> rfl) (by simp only [go_sem] <;> rfl) ?_
            refine OpenK.op (by simp only [go_sem, hsa, ho, hsp, hg, hg2, madeV, hr]; (try simp (disch := omega) only [if_pos]); (try simp only [go_sem, hsa, ho, hsp, hg, hg2, madeV, hr])<;> rfl) (by simp only [go_sem] <;> rfl) (by simp only [go_sem] <;> rfl) ?_
            refine OpenK.op (by simp only [go_sem, hsa, ho, hsp, hg, hg2, madeV, hr]; (try simp (disch := omega) only [if_pos]); (try simp only [go_sem, hsa, ho, hsp, hg, hg2, madeV, hr]) <;> first | (refine ite_run ⟨by (try simp only [List.length_append, List.length_drop, List.length_take, List.length_map, List.length_cons, List.length_nil, List.length_replicate, List.length_set, List.length_range, Nat.zero_add]); omega, by (try simp only [List.length_append, List.length_drop, List.length_take, List.length_map, List.length_cons, List.length_nil, List.length_replicate, List.length_set, List.length_range, Nat.zero_add]); omega, by repeat (first | exact al_nil | assumption | refine al_app ?_ ?_ | refine al_drop ?_ | refine al_take ?_ | exact al_map (fun _ => rfl) | exact al_rep rfl | refine al_cons rfl ?_)⟩ ?_; simp only [go_sem, hsa, ho, hsp, hg, hg2, madeV, hr] <;> rfl) | (refine ite_run ⟨by (try simp only [List.length_append, List.length_drop, List.length_take, List.length_map, List.length_cons, List.length_nil, List.length_replicate, List.length_set, List.length_range, Nat.zero_add]); omega, by repeat (first | exact al_nil | assumption | refine al_app ?_ ?_ | refine al_drop ?_ | refine al_take ?_ | exact al_map (fun _ => rfl) | exact al_rep rfl | refine al_cons rfl ?_)⟩ ?_; simp only [go_sem, hsa, ho, hsp, hg, hg2, madeV, hr] <;> rfl) | rfl) (by simp only [go_sem] <;> rfl) (by simp only [go_sem] <;> rfl) ?_
            refine OpenK.op (by simp only [go_sem, hsa, ho, hsp, hg, hg2, madeV, hr] <;> rfl) (by simp only [go_sem] <;> rfl) (by simp only [go_sem] <;> rfl) ?_
            refine OpenK.op (by simp only [go_sem, hsa, ho, hsp, hg, hg2, madeV, hr] <;> rfl) (by simp only [go_sem] <;> rfl) (by simp only [go_sem] <;> rfl) ?_
            refine OpenK.nil (OpenE.fin (by decide +kernel) (by decide +kernel) ?_)
            refine Exec.reg ?_
            refine Run.frz 113 (by simp only [go_sem] <;> rfl) ?_
            iterate 3 (refine Run.op (by simp only [go_sem, hsa, ho, hsp, hg, hg2, madeV, hr] <;> rfl) (by simp only [go_sem] <;> rfl) ?_)
            refine Run.nil ?_
            refine BlkK.ret ?_
            exact Ends.fin [] (rs := [.cell 4 25, .tmp 5]) rfl (by simp only [go_sem, hsa, ho, hsp, hg, hg2, madeV, hr] <;> rfl) (by simp only [go_sem, hsa, ho, hsp, hg, hg2, madeV, hr] <;> first | rfl | ((repeat' (first | with_reducible_and_instances rfl | refine st_eq ?_ ?_ ?_ | refine ret_eq ?_ | refine tup_eq ?_ | refine tm_eq ?_ ?_ | refine arr_eq ?_ | refine cells_eq ?_ | refine val_eq ?_ | refine ls_eq ?_ ?_ | refine own_eq ?_ ?_ | refine sl_eq ?_ | refine b_eq ?_ | (refine i_eq ?_; omega))); (refine Eq.trans ?_ (List.take_of_length_le (by simp)).symm; simp [List.map_set, List.map_take, List.map_drop, encReading, show ((a : Int) + 1).toNat = a + 1 from by omega])))
        · skip
          have hp : befS w a = none := by
            cases h : befS w a with
            | none => rfl
            | some p => exact absurd ⟨p, h⟩ hp
          have ho : optI (befS w a) = -1 := by rw [hp]; rfl
          have hg : decide ((-1 : Int) < 0) = true := by decide
          have hg2 : decide ((-1 : Int) ≥ 0) = false := by decide
          refine Exec.opk 15 ?_
          refine OpenK.op (by simp only [go_sem, hsa, ho, hg, hg2] <;> rfl) (by simp only [go_sem] <;> rfl) (by simp only [go_sem] <;> rfl) ?_
          refine OpenK.op (by simp only [go_sem, hsa, ho, hg, hg2] <;> rfl) (by simp only [go_sem] <;> rfl) (by simp only [go_sem] <;> rfl) ?_
          refine OpenK.op (by simp only [go_sem, hsa, ho, hg, hg2] <;> rfl) (by simp only [go_sem] <;> rfl) (by simp only [go_sem] <;> rfl) ?_
          refine OpenK.skp (by simp only [go_sem] <;> rfl) (by simp only [go_sem] <;> rfl) (by simp only [go_sem] <;> rfl) ?_
          refine OpenK.skp (by simp only [go_sem] <;> rfl) (by simp only [go_sem] <;> rfl) (by simp only [go_sem] <;> rfl) ?_
          refine OpenK.skp (by simp only [go_sem] <;> rfl) (by simp only [go_sem] <;> rfl) (by simp only [go_sem] <;> rfl) ?_
          refine OpenK.skp (by simp only [go_sem] <;> rfl) (by simp only [go_sem] <;> rfl) (by simp only [go_sem] <;> rfl) ?_
          refine OpenK.skp (by simp only [go_sem] <;> rfl) (by simp only [go_sem] <;> rfl) (by simp only [go_sem] <;> rfl) ?_
          refine OpenK.skp (by simp only [go_sem] <;> rfl) (by simp only [go_sem] <;> rfl) (by simp only [go_sem] <;> rfl) ?_
          refine OpenK.skp (by simp only [go_sem] <;> rfl) (by simp only [go_sem] <;> rfl) (by simp only [go_sem] <;> rfl) ?_
          refine OpenK.skp (by simp only [go_sem] <;> rfl) (by simp only [go_sem] <;> rfl) (by simp only [go_sem] <;> rfl) ?_
          refine OpenK.skp (by simp only [go_sem] <;> rfl) (by simp only [go_sem] <;> rfl) (by simp only [go_sem] <;> rfl) ?_
          refine OpenK.op (by simp only [go_sem, hsa, ho, hg, hg2] <;> rfl) (by simp only [go_sem] <;> rfl) (by simp only [go_sem] <;> rfl) ?_
          refine OpenK.nil (OpenE.fin (by decide +kernel) (by decide +kernel) ?_)
          refine Exec.cndS (by simp only [go_sem, hsa, ho, hg, hg2] <;> rfl) (fun hb111 => ?_) (fun hb111 => ?_)
          · skip
            have hr : madeS w ⟨kd, a, b, c⟩ = none := by unfold madeS; rw [if_neg (by simp [hin])]; simp only [Int.toNat_natCast]; rw [if_neg hk0, if_pos hk, hp]
            refine Exec.assocS ?_
            refine Exec.reg ?_
            iterate 3 (refine Run.op (by simp only [go_sem, hsa, ho, hg, hg2, madeV, hr] <;> rfl) (by simp only [go_sem] <;> rfl) ?_)
            refine Run.nil ?_
            refine Exec.retS ?_
            refine BlkK.ret ?_
            exact Ends.fin [] (rs := [.cell 4 25, .tmp 5]) rfl (by simp only [go_sem, hsa, ho, hg, hg2, madeV, hr] <;> rfl) (by simp only [go_sem, hsa, ho, hg, hg2, madeV, hr] <;> first | rfl | ((repeat' (first | with_reducible_and_instances rfl | refine st_eq ?_ ?_ ?_ | refine ret_eq ?_ | refine tup_eq ?_ | refine tm_eq ?_ ?_ | refine arr_eq ?_ | refine cells_eq ?_ | refine val_eq ?_ | refine ls_eq ?_ ?_ | refine own_eq ?_ ?_ | refine sl_eq ?_ | refine b_eq ?_ | (refine i_eq ?_; omega))); done))
          · exact absurd hb111 (by simp)
      · skip
        have hk1 : ¬ kd = 1 := by simpa using hb97
        refine Exec.reg ?_
        iterate 2 (refine Run.op (by simp only [go_sem, hsa] <;> rfl) (by simp only [go_sem] <;> rfl) ?_)
        refine Run.nil ?_
        refine Exec.cnd (by simp only [go_sem, hsa] <;> rfl) (fun hb129 => ?_) (fun hb129 => ?_)
        · skip
          have hk : kd = 2 := by simpa using hb129
          refine Exec.reg ?_
          iterate 4 (refine Run.op (by simp only [go_sem, hsa] <;> rfl) (by simp only [go_sem] <;> rfl) ?_)
          refine Run.op (by simp only [go_sem, hsa]; (try simp (disch := omega) only [IntWalk.i64_in, IntWalk.u64_in, if_neg, if_pos])<;> rfl) (by simp only [go_sem] <;> rfl) ?_
          refine Run.op (by simp only [go_sem, hsa] <;> rfl) (by simp only [go_sem] <;> rfl) ?_
          refine Run.nil ?_
          refine Exec.assocS ?_
          by_cases hp : ∃ p, befS w a = some p
          · skip
            obtain ⟨p, hp⟩ := hp
            have hpl := befS_lt hp
            have hsp := rd_get hpl
            have ho : optI (befS w a) = (p : Int) := by rw [hp]; rfl
            have hg : decide ((p : Int) < 0) = false := by simp
            have hg2 : decide ((p : Int) ≥ 0) = true := by simp
            
            refine Exec.reg ?_
            iterate 2 (refine Run.op (by simp only [go_sem, hsa, ho, hsp, hg, hg2] <;> rfl) (by simp only [go_sem] <;> rfl) ?_)
            refine Run.cal (c_meterworksref12_in _ _ _) (by simp only [go_sem]) (by simp only [go_sem, hsa, ho, hsp, hg, hg2] <;> rfl) (by exact ⟨by first | exact WkR.pure rfl | exact WkR.nil _ | exact WkR.int (by first | omega | (simp; done) | (simp; omega)), by first | exact WkR.pure rfl | exact WkR.nil _ | exact WkR.int (by first | omega | (simp; done) | (simp; omega)), by first | exact WkR.pure rfl | exact WkR.nil _ | exact WkR.int (by first | omega | (simp; done) | (simp; omega)), trivial⟩) (fr0) (by simp only [go_sem, hsa, ho, hsp, hg, hg2] <;> rfl) ?_
            iterate 2 (refine Run.op (by simp only [go_sem, hsa, ho, hsp, hg, hg2] <;> rfl) (by simp only [go_sem] <;> rfl) ?_)
            refine Run.gop (by simp only [go_sem] <;> rfl) (by simp only [go_sem, hsa, ho, hsp, hg, hg2] <;> rfl) (by simp only [go_sem] <;> rfl) ?_
            refine Run.gop (by simp only [go_sem] <;> rfl) (by simp only [go_sem, hsa, ho, hsp, hg, hg2] <;> rfl) (by simp only [go_sem] <;> rfl) ?_
            iterate 2 (refine Run.op (by simp only [go_sem, hsa, ho, hsp, hg, hg2] <;> rfl) (by simp only [go_sem] <;> rfl) ?_)
            refine Run.gop (by simp only [go_sem] <;> rfl) (by simp only [go_sem, hsa, ho, hsp, hg, hg2] <;> rfl) (by simp only [go_sem] <;> rfl) ?_
            refine Run.gop (by simp only [go_sem] <;> rfl) (by simp only [go_sem, hsa, ho, hsp, hg, hg2] <;> rfl) (by simp only [go_sem] <;> rfl) ?_
            refine Run.gop (by simp only [go_sem] <;> rfl) (by simp only [go_sem, hsa, ho, hsp, hg, hg2] <;> rfl) (by simp only [go_sem] <;> rfl) ?_
            refine Run.gop (by simp only [go_sem] <;> rfl) (by simp only [go_sem, hsa, ho, hsp, hg, hg2] <;> rfl) (by simp only [go_sem] <;> rfl) ?_
            refine Run.gop (by simp only [go_sem] <;> rfl) (by simp only [go_sem, hsa, ho, hsp, hg, hg2] <;> rfl) (by simp only [go_sem] <;> rfl) ?_
            refine Run.gop (by simp only [go_sem] <;> rfl) (by simp only [go_sem, hsa, ho, hsp, hg, hg2] <;> rfl) (by simp only [go_sem] <;> rfl) ?_
            refine Run.gop (by simp only [go_sem] <;> rfl) (by simp only [go_sem, hsa, ho, hsp, hg, hg2] <;> rfl) (by simp only [go_sem] <;> rfl) ?_
            refine Run.gop (by simp only [go_sem] <;> rfl) (by simp only [go_sem, hsa, ho, hsp, hg, hg2]; (try simp (disch := omega) only [if_pos]); (try simp only [go_sem, hsa, ho, hsp, hg, hg2])<;> rfl) (by simp only [go_sem] <;> rfl) ?_
            refine Run.gop (by simp only [go_sem] <;> rfl) (by simp only [go_sem, hsa, ho, hsp, hg, hg2] <;> rfl) (by simp only [go_sem] <;> rfl) ?_
            refine Run.gop (by simp only [go_sem] <;> rfl) (by simp only [go_sem, hsa, ho, hsp, hg, hg2] <;> rfl) (by simp only [go_sem] <;> rfl) ?_
            refine Run.gop (by simp only [go_sem] <;> rfl) (by simp only [go_sem, hsa, ho, hsp, hg, hg2] <;> rfl) (by simp only [go_sem] <;> rfl) ?_
            refine Run.gop (by simp only [go_sem] <;> rfl) (by simp only [go_sem, hsa, ho, hsp, hg, hg2] <;> rfl) (by simp only [go_sem] <;> rfl) ?_
            refine Run.op (by simp only [go_sem, hsa, ho, hsp, hg, hg2] <;> rfl) (by simp only [go_sem] <;> rfl) ?_
            refine Run.nil ?_
            refine Exec.cndS (by simp only [go_sem, hsa, ho, hsp, hg, hg2] <;> rfl) (fun hb157 => ?_) (fun hb157 => ?_)
            · skip
              have hr : madeS w ⟨kd, a, b, c⟩ = none := by unfold madeS; rw [if_neg (by simp [hin])]; simp only [Int.toNat_natCast]; rw [if_neg hk0, if_neg hk1, if_pos hk, if_neg]; rintro ⟨q1, q2, q3⟩; have := q3 p hp; revert hb157; simp [q1]; omega
              refine Exec.assocS ?_
              refine Exec.reg ?_
              iterate 3 (refine Run.op (by simp only [go_sem, hsa, ho, hsp, hg, hg2, madeV, hr] <;> rfl) (by simp only [go_sem] <;> rfl) ?_)
              refine Run.nil ?_
              refine Exec.retS ?_
              refine BlkK.ret ?_
              exact Ends.fin [] (rs := [.cell 4 25, .tmp 5]) rfl (by simp only [go_sem, hsa, ho, hsp, hg, hg2, madeV, hr] <;> rfl) (by simp only [go_sem, hsa, ho, hsp, hg, hg2, madeV, hr] <;> first | rfl | ((repeat' (first | with_reducible_and_instances rfl | refine st_eq ?_ ?_ ?_ | refine ret_eq ?_ | refine tup_eq ?_ | refine tm_eq ?_ ?_ | refine arr_eq ?_ | refine cells_eq ?_ | refine val_eq ?_ | refine ls_eq ?_ ?_ | refine own_eq ?_ ?_ | refine sl_eq ?_ | refine b_eq ?_ | (refine i_eq ?_; omega))); done))
            · skip
              have hr : madeS w ⟨kd, a, b, c⟩ = some ⟨w.rates, w.readings.set a { rd w a with day := (rd w a).day - b }⟩ := by unfold madeS; rw [if_neg (by simp [hin])]; simp only [Int.toNat_natCast]; rw [if_neg hk0, if_neg hk1, if_pos hk, if_pos]; have h0 := hb157; simp only [Bool.or_eq_false_iff, Bool.not_eq_false', decide_eq_false_iff_not] at h0; exact ⟨by simpa using h0.1.1, by omega, fun q hq => by rw [hp] at hq; cases hq; omega⟩
              refine Exec.skipS ?_
              refine Exec.reg ?_
              iterate 5 (refine Run.op (by simp only [go_sem, hsa, ho, hsp, hg, hg2, madeV, hr] <;> rfl) (by simp only [go_sem] <;> rfl) ?_)
              refine Run.op (by simp only [go_sem, hsa, ho, hsp, hg, hg2, madeV, hr]; (try simp (disch := omega) only [if_pos]); (try simp only [go_sem, hsa, ho, hsp, hg, hg2, madeV, hr])<;> rfl) (by simp only [go_sem] <;> rfl) ?_
              iterate 2 (refine Run.op (by simp only [go_sem, hsa, ho, hsp, hg, hg2, madeV, hr] <;> rfl) (by simp only [go_sem] <;> rfl) ?_)
              refine Run.nil ?_
              refine Exec.reg ?_
              refine Run.frz 12 (by simp only [go_sem] <;> rfl) ?_
              iterate 3 (refine Run.op (by simp only [go_sem, hsa, ho, hsp, hg, hg2, madeV, hr] <;> rfl) (by simp only [go_sem] <;> rfl) ?_)
              refine Run.nil ?_
              refine BlkK.ret ?_
              exact Ends.fin [] (rs := [.cell 4 25, .tmp 5]) rfl (by simp only [go_sem, hsa, ho, hsp, hg, hg2, madeV, hr] <;> rfl) (by simp only [go_sem, hsa, ho, hsp, hg, hg2, madeV, hr] <;> first | rfl | ((repeat' (first | with_reducible_and_instances rfl | refine st_eq ?_ ?_ ?_ | refine ret_eq ?_ | refine tup_eq ?_ | refine tm_eq ?_ ?_ | refine arr_eq ?_ | refine cells_eq ?_ | refine val_eq ?_ | refine ls_eq ?_ ?_ | refine own_eq ?_ ?_ | refine sl_eq ?_ | refine b_eq ?_ | (refine i_eq ?_; omega))); (refine Eq.trans ?_ (List.take_of_length_le (by simp)).symm; simp [List.map_set, List.map_take, List.map_drop, encReading, show ((a : Int) + 1).toNat = a + 1 from by omega])))
          · skip
            have hp : befS w a = none := by
              cases h : befS w a with
              | none => rfl
              | some p => exact absurd ⟨p, h⟩ hp
            have ho : optI (befS w a) = -1 := by rw [hp]; rfl
            have hg : decide ((-1 : Int) < 0) = true := by decide
            have hg2 : decide ((-1 : Int) ≥ 0) = false := by decide
            refine Exec.reg ?_
            iterate 2 (refine Run.op (by simp only [go_sem, hsa, ho, hg, hg2] <;> rfl) (by simp only [go_sem] <;> rfl) ?_)
            refine Run.cal (c_meterworksref12_in _ _ _) (by simp only [go_sem]) (by simp only [go_sem, hsa, ho, hg, hg2] <;> rfl) (by exact ⟨by first | exact WkR.pure rfl | exact WkR.nil _ | exact WkR.int (by first | omega | (simp; done) | (simp; omega)), by first | exact WkR.pure rfl | exact WkR.nil _ | exact WkR.int (by first | omega | (simp; done) | (simp; omega)), by first | exact WkR.pure rfl | exact WkR.nil _ | exact WkR.int (by first | omega | (simp; done) | (simp; omega)), trivial⟩) (fr0) (by simp only [go_sem, hsa, ho, hg, hg2] <;> rfl) ?_
            iterate 2 (refine Run.op (by simp only [go_sem, hsa, ho, hg, hg2] <;> rfl) (by simp only [go_sem] <;> rfl) ?_)
            refine Run.gop (by simp only [go_sem] <;> rfl) (by simp only [go_sem, hsa, ho, hg, hg2] <;> rfl) (by simp only [go_sem] <;> rfl) ?_
            refine Run.gop (by simp only [go_sem] <;> rfl) (by simp only [go_sem, hsa, ho, hg, hg2] <;> rfl) (by simp only [go_sem] <;> rfl) ?_
            iterate 2 (refine Run.op (by simp only [go_sem, hsa, ho, hg, hg2] <;> rfl) (by simp only [go_sem] <;> rfl) ?_)
            refine Run.gop (by simp only [go_sem] <;> rfl) (by simp only [go_sem, hsa, ho, hg, hg2] <;> rfl) (by simp only [go_sem] <;> rfl) ?_
            refine Run.gop (by simp only [go_sem] <;> rfl) (by simp only [go_sem, hsa, ho, hg, hg2] <;> rfl) (by simp only [go_sem] <;> rfl) ?_
            refine Run.gop (by simp only [go_sem] <;> rfl) (by simp only [go_sem, hsa, ho, hg, hg2] <;> rfl) (by simp only [go_sem] <;> rfl) ?_
            refine Run.skp (by simp only [go_sem] <;> rfl) (by simp only [go_sem] <;> rfl) ?_
            refine Run.skp (by simp only [go_sem] <;> rfl) (by simp only [go_sem] <;> rfl) ?_
            refine Run.skp (by simp only [go_sem] <;> rfl) (by simp only [go_sem] <;> rfl) ?_
            refine Run.skp (by simp only [go_sem] <;> rfl) (by simp only [go_sem] <;> rfl) ?_
            refine Run.skp (by simp only [go_sem] <;> rfl) (by simp only [go_sem] <;> rfl) ?_
            refine Run.skp (by simp only [go_sem] <;> rfl) (by simp only [go_sem] <;> rfl) ?_
            refine Run.skp (by simp only [go_sem] <;> rfl) (by simp only [go_sem] <;> rfl) ?_
            refine Run.skp (by simp only [go_sem] <;> rfl) (by simp only [go_sem] <;> rfl) ?_
            refine Run.gop (by simp only [go_sem] <;> rfl) (by simp only [go_sem, hsa, ho, hg, hg2] <;> rfl) (by simp only [go_sem] <;> rfl) ?_
            refine Run.op (by simp only [go_sem, hsa, ho, hg, hg2] <;> rfl) (by simp only [go_sem] <;> rfl) ?_
            refine Run.nil ?_
            refine Exec.cndS (by simp only [go_sem, hsa, ho, hg, hg2] <;> rfl) (fun hb157 => ?_) (fun hb157 => ?_)
            · skip
              have hr : madeS w ⟨kd, a, b, c⟩ = none := by unfold madeS; rw [if_neg (by simp [hin])]; simp only [Int.toNat_natCast]; rw [if_neg hk0, if_neg hk1, if_pos hk, if_neg]; rintro ⟨q1, q2, q3⟩; revert hb157; simp [q1]; omega
              refine Exec.assocS ?_
              refine Exec.reg ?_
              iterate 3 (refine Run.op (by simp only [go_sem, hsa, ho, hg, hg2, madeV, hr] <;> rfl) (by simp only [go_sem] <;> rfl) ?_)
              refine Run.nil ?_
              refine Exec.retS ?_
              refine BlkK.ret ?_
              exact Ends.fin [] (rs := [.cell 4 25, .tmp 5]) rfl (by simp only [go_sem, hsa, ho, hg, hg2, madeV, hr] <;> rfl) (by simp only [go_sem, hsa, ho, hg, hg2, madeV, hr] <;> first | rfl | ((repeat' (first | with_reducible_and_instances rfl | refine st_eq ?_ ?_ ?_ | refine ret_eq ?_ | refine tup_eq ?_ | refine tm_eq ?_ ?_ | refine arr_eq ?_ | refine cells_eq ?_ | refine val_eq ?_ | refine ls_eq ?_ ?_ | refine own_eq ?_ ?_ | refine sl_eq ?_ | refine b_eq ?_ | (refine i_eq ?_; omega))); done))
            · skip
              have hr : madeS w ⟨kd, a, b, c⟩ = some ⟨w.rates, w.readings.set a { rd w a with day := (rd w a).day - b }⟩ := by unfold madeS; rw [if_neg (by simp [hin])]; simp only [Int.toNat_natCast]; rw [if_neg hk0, if_neg hk1, if_pos hk, if_pos]; have h0 := hb157; simp only [Bool.or_eq_false_iff, Bool.not_eq_false', decide_eq_false_iff_not] at h0; exact ⟨by simpa using h0.1, by omega, fun q hq => by rw [hp] at hq; cases hq⟩
              refine Exec.skipS ?_
              refine Exec.reg ?_
              iterate 5 (refine Run.op (by simp only [go_sem, hsa, ho, hg, hg2, madeV, hr] <;> rfl) (by simp only [go_sem] <;> rfl) ?_)
              refine Run.op (by simp only [go_sem, hsa, ho, hg, hg2, madeV, hr]; (try simp (disch := omega) only [if_pos]); (try simp only [go_sem, hsa, ho, hg, hg2, madeV, hr])<;> rfl) (by simp only [go_sem] <;> rfl) ?_
              iterate 2 (refine Run.op (by simp only [go_sem, hsa, ho, hg, hg2, madeV, hr] <;> rfl) (by simp only [go_sem] <;> rfl) ?_)
              refine Run.nil ?_
              refine Exec.reg ?_
              refine Run.frz 12 (by simp only [go_sem] <;> rfl) ?_
              iterate 3 (refine Run.op (by simp only [go_sem, hsa, ho, hg, hg2, madeV, hr] <;> rfl) (by simp only [go_sem] <;> rfl) ?_)
              refine Run.nil ?_
              refine BlkK.ret ?_
              exact Ends.fin [] (rs := [.cell 4 25, .tmp 5]) rfl (by simp only [go_sem, hsa, ho, hg, hg2, madeV, hr] <;> rfl) (by simp only [go_sem, hsa, ho, hg, hg2, madeV, hr] <;> first | rfl | ((repeat' (first | with_reducible_and_instances rfl | refine st_eq ?_ ?_ ?_ | refine ret_eq ?_ | refine tup_eq ?_ | refine tm_eq ?_ ?_ | refine arr_eq ?_ | refine cells_eq ?_ | refine val_eq ?_ | refine ls_eq ?_ ?_ | refine own_eq ?_ ?_ | refine sl_eq ?_ | refine b_eq ?_ | (refine i_eq ?_; omega))); (refine Eq.trans ?_ (List.take_of_length_le (by simp)).symm; simp [List.map_set, List.map_take, List.map_drop, encReading, show ((a : Int) + 1).toNat = a + 1 from by omega])))
        · skip
          have hk2 : ¬ kd = 2 := by simpa using hb129
          have hr : madeS w ⟨kd, a, b, c⟩ = none := by unfold madeS; rw [if_neg (by simp [hin])]; simp only [Int.toNat_natCast]; rw [if_neg hk0, if_neg hk1, if_neg hk2]
          refine BlkK.nrm ?_
          refine Exec.reg ?_
          iterate 3 (refine Run.op (by simp only [go_sem, hsa, madeV, hr] <;> rfl) (by simp only [go_sem] <;> rfl) ?_)
          refine Run.nil ?_
          exact Ends.fin [] (rs := [.cell 4 25, .tmp 5]) rfl (by simp only [go_sem, hsa, madeV, hr] <;> rfl) (by simp only [go_sem, hsa, madeV, hr] <;> first | rfl | ((repeat' (first | with_reducible_and_instances rfl | refine st_eq ?_ ?_ ?_ | refine ret_eq ?_ | refine tup_eq ?_ | refine tm_eq ?_ ?_ | refine arr_eq ?_ | refine cells_eq ?_ | refine val_eq ?_ | refine ls_eq ?_ ?_ | refine own_eq ?_ ?_ | refine sl_eq ?_ | refine b_eq ?_ | (refine i_eq ?_; omega))); done))

end Go.Mw
namespace Go.Mw

def ordR (y x : Repair) : Prop := y.kind < x.kind ∨ (y.kind = x.kind ∧ (y.a < x.a ∨ (y.a = x.a ∧ x.kind = 0 ∧ y.b < x.b)))
theorem mem_swN {w : Walk} {x : Repair} : x ∈ swN w w.readings.length ↔ ∃ a b : Nat, a < b ∧ b < w.readings.length ∧ worksS w ⟨0, a, b, 0⟩ = true ∧ x = ⟨0, a, b, 0⟩ := by
  unfold swN swA swB
  rw [List.mem_flatMap]
  constructor
  · rintro ⟨a, ha, h⟩
    obtain ⟨b, hb, rfl⟩ := List.mem_map.1 h
    obtain ⟨h1, h2⟩ := List.mem_filter.1 hb
    have := List.mem_range'_1.1 h1
    have := List.mem_range.1 ha
    exact ⟨a, b, by omega, by omega, h2, rfl⟩
  · rintro ⟨a, b, h1, h2, h3, rfl⟩
    exact ⟨a, List.mem_range.2 (by omega), List.mem_map.2 ⟨b, List.mem_filter.2 ⟨List.mem_range'_1.2 (by omega), h3⟩, rfl⟩⟩
theorem mem_cpN {w : Walk} {x : Repair} : x ∈ cpN w w.readings.length ↔ ∃ a : Nat, a < w.readings.length ∧ worksS w ⟨1, a, 0, 0⟩ = true ∧ x = ⟨1, a, 0, 0⟩ := by
  unfold cpN
  constructor
  · intro h
    obtain ⟨b, hb, rfl⟩ := List.mem_map.1 h
    obtain ⟨h1, h2⟩ := List.mem_filter.1 hb
    exact ⟨b, List.mem_range.1 h1, h2, rfl⟩
  · rintro ⟨a, h1, h2, rfl⟩
    exact List.mem_map.2 ⟨a, List.mem_filter.2 ⟨List.mem_range.2 h1, h2⟩, rfl⟩
theorem mem_ltN {w : Walk} {x : Repair} : x ∈ ltN w w.readings.length ↔ ∃ a : Nat, a < w.readings.length ∧ x ∈ ltA w a := by
  unfold ltN
  rw [List.mem_flatMap]
  simp only [List.mem_range]
theorem works_lt_no {w : Walk} {a d : Int} (h : ¬ (1 ≤ d ∧ d ≤ 30)) : worksS w ⟨2, a, d, 0⟩ = false := by
  have hm : madeS w ⟨2, a, d, 0⟩ = none := by
    unfold madeS
    simp only
    by_cases h0 : inB a 0 ((w.readings.length : Int) - 1) = false
    · rw [if_pos h0]
    · rw [if_neg h0, if_neg (by decide), if_neg (by decide), if_pos trivial, if_neg (fun hc => h (inB_iff.1 hc.1))]
  unfold worksS
  rw [hm]
theorem ltD_pw (w : Walk) (a j : Nat) : (ltD w a j).Pairwise (· < ·) := by
  unfold ltD
  exact List.Pairwise.filter _ List.pairwise_lt_range'
theorem mem_ltD {w : Walk} {a d : Nat} : d ∈ ltD w a 30 ↔ (1 ≤ d ∧ d ≤ 30) ∧ worksS w ⟨2, a, d, 0⟩ = true := by
  unfold ltD
  rw [List.mem_filter, List.mem_range'_1]
  exact ⟨fun h => ⟨by omega, h.2⟩, fun h => ⟨by omega, h.2⟩⟩
/-- A span of days of which each one explains the readings, and no other one does. -/
theorem late_span {w : Walk} (hw : walkB w = true) {a : Nat} (ha : a < w.readings.length) {x : Repair} (h : x ∈ ltA w a) : ∃ b c : Nat, x = ⟨2, a, b, c⟩ ∧ 1 ≤ b ∧ b ≤ c ∧ c ≤ 30 ∧ ∀ d : Int, worksS w ⟨2, a, d, 0⟩ = decide ((b : Int) ≤ d ∧ d ≤ (c : Int)) := by
  unfold ltA at h
  split at h
  · cases h
  · rename_i d r hd
    simp at h
    have hne : ltD w a 30 ≠ [] := by rw [hd]; simp
    obtain ⟨c, hc, hlast⟩ := lastI_pos hne
    have hpw := ltD_pw w a 30
    have hdm : d ∈ ltD w a 30 := by rw [hd]; simp
    have hd1 := mem_ltD.1 hdm
    have hc1 := mem_ltD.1 hc
    have hmin : ∀ e ∈ ltD w a 30, d ≤ e := by
      intro e he
      rw [hd] at he hpw
      rcases List.mem_cons.1 he with rfl | he
      · exact Nat.le_refl _
      · exact Nat.le_of_lt ((List.pairwise_cons.1 hpw).1 e he)
    have hmax : ∀ e ∈ ltD w a 30, e ≤ c := by
      intro e he
      have hsplit : ltD w a 30 = (ltD w a 30).dropLast ++ [(ltD w a 30).getLast hne] := (List.dropLast_concat_getLast hne).symm
      have hcl : c = (ltD w a 30).getLast hne := by
        unfold lastI at hlast
        rw [List.getLast?_eq_some_getLast hne] at hlast
        simp only at hlast
        omega
      rw [hsplit] at he hpw
      rcases List.mem_append.1 he with he | he
      · have := (List.pairwise_append.1 hpw).2.2 e he _ (List.mem_singleton.2 rfl)
        omega
      · have := List.mem_singleton.1 he
        omega
    refine ⟨d, c, by rw [h, ← hd, hlast], hd1.1.1, hmin c hc, hc1.1.2, fun e => ?_⟩
    rw [Bool.eq_iff_iff, decide_eq_true_iff]
    constructor
    · intro he
      by_cases hr : 1 ≤ e ∧ e ≤ 30
      · obtain ⟨n, rfl⟩ : ∃ n : Nat, e = n := ⟨e.toNat, by omega⟩
        have hm := mem_ltD.2 ⟨by omega, he⟩
        have := hmin n hm
        have := hmax n hm
        omega
      · rw [works_lt_no hr] at he; cases he
    · rintro ⟨h1, h2⟩
      obtain ⟨n, rfl⟩ : ∃ n : Nat, e = n := ⟨e.toNat, by omega⟩
      exact works_mid hw ha (d := d) (f := c) hd1.1.1 (by omega) (by omega) hd1.2 hc1.2
theorem all_pw (w : Walk) : (allS w).Pairwise ordR := by
  unfold allS
  rw [List.pairwise_append, List.pairwise_append]
  refine ⟨⟨?_, ?_, ?_⟩, ?_, ?_⟩
  · unfold swN
    rw [List.pairwise_flatMap]
    refine ⟨fun a _ => ?_, List.pairwise_lt_range.imp fun {a b} hab x hx y hy => ?_⟩
    · unfold swA swB
      rw [List.pairwise_map]
      exact (List.Pairwise.filter _ List.pairwise_lt_range').imp fun {c d} hcd => .inr ⟨rfl, .inr ⟨rfl, rfl, by simpa using hcd⟩⟩
    · unfold swA swB at hx hy
      obtain ⟨c, _, rfl⟩ := List.mem_map.1 hx
      obtain ⟨d, _, rfl⟩ := List.mem_map.1 hy
      exact .inr ⟨rfl, .inl (by simpa using hab)⟩
  · unfold cpN
    rw [List.pairwise_map]
    exact (List.Pairwise.filter _ List.pairwise_lt_range).imp fun {c d} hcd => .inr ⟨rfl, .inl (by simpa using hcd)⟩
  · intro x hx y hy
    obtain ⟨_, _, _, _, _, rfl⟩ := mem_swN.1 hx
    obtain ⟨_, _, _, rfl⟩ := mem_cpN.1 hy
    exact .inl (show (0 : Int) < 1 by decide)
  · unfold ltN
    rw [List.pairwise_flatMap]
    refine ⟨fun a _ => ?_, List.pairwise_lt_range.imp fun {a b} hab x hx y hy => ?_⟩
    · unfold ltA
      split
      · exact List.Pairwise.nil
      · exact List.pairwise_singleton _ _
    · have h1 := ltA_a hx
      have h2 := ltA_a hy
      exact .inr ⟨by omega, .inl (by omega)⟩
  · intro x hx y hy
    obtain ⟨a, ha, hy⟩ := mem_ltN.1 hy
    have h2 := ltA_a hy
    rcases List.mem_append.1 hx with hx | hx
    · obtain ⟨_, _, _, _, _, rfl⟩ := mem_swN.1 hx
      exact .inl (by rw [h2.1]; exact (show (0 : Int) < 2 by decide))
    · obtain ⟨_, _, _, rfl⟩ := mem_cpN.1 hx
      exact .inl (by rw [h2.1]; exact (show (1 : Int) < 2 by decide))

/-- Does one of those that explain the readings stand for this one? -/
def covB (o x : Repair) : Bool := if x.kind = 2 then (o.kind == x.kind && (o.a == x.a)) && decide (o.b ≥ x.b) && decide (o.b ≤ x.c) else decide (o = x)
theorem covB_no {o x : Repair} (h : x.kind ≠ 2) : covB o x = decide (o = x) := if_neg h
theorem cov_all {w : Walk} (hw : walkB w = true) {o : Repair} (ha : 0 ≤ o.a ∧ o.a < w.readings.length) (hb : 0 ≤ o.b) (hk : o.kind = 0 ∨ (o.kind = 1 ∧ o.b = 0) ∨ o.kind = 2) (hc : o.c = 0) : (allS w).any (covB o) = worksS w o := by
  obtain ⟨k, a, b, c⟩ := o
  simp only at ha hb hk hc
  subst hc
  obtain ⟨a, rfl⟩ : ∃ a' : Nat, a = a' := ⟨a.toNat, by omega⟩
  obtain ⟨b, rfl⟩ : ∃ b' : Nat, b = b' := ⟨b.toNat, by omega⟩
  have han : a < w.readings.length := by omega
  rw [Bool.eq_iff_iff, List.any_eq_true]
  constructor
  · rintro ⟨x, hx, hcov⟩
    unfold allS at hx
    rw [List.mem_append, List.mem_append] at hx
    rcases hx with (hx | hx) | hx
    · obtain ⟨a', b', _, _, h3, rfl⟩ := mem_swN.1 hx
      rw [covB_no (show (0 : Int) ≠ 2 by decide), decide_eq_true_iff] at hcov
      rw [hcov]; exact h3
    · obtain ⟨a', _, h3, rfl⟩ := mem_cpN.1 hx
      rw [covB_no (show (1 : Int) ≠ 2 by decide), decide_eq_true_iff] at hcov
      rw [hcov]; exact h3
    · obtain ⟨a', h1, hx⟩ := mem_ltN.1 hx
      obtain ⟨b', c', rfl, _, _, _, hall⟩ := late_span hw h1 hx
      unfold covB at hcov
      rw [if_pos rfl] at hcov
      simp only [Bool.and_eq_true, beq_iff_eq, decide_eq_true_eq] at hcov
      obtain ⟨⟨⟨q1, q2⟩, q3⟩, q4⟩ := hcov
      rw [q1, q2, hall]
      simp only [decide_eq_true_eq]
      exact ⟨q3, q4⟩
  · intro h
    rcases hk with rfl | ⟨rfl, hb0⟩ | rfl
    · have hab : a < b ∧ b < w.readings.length := by
        unfold worksS madeS at h
        simp only [nat_in han, Bool.true_eq_false, if_false, if_true] at h
        split at h
        · rename_i m hm
          split at hm
          · cases hm
          · rename_i hin
            have hin : inB (b : Int) ((a : Int) + 1) ((w.readings.length : Int) - 1) = true := by simpa using hin
            have := inB_iff.1 hin
            omega
        · cases h
      refine ⟨⟨0, a, b, 0⟩, ?_, by rw [covB_no (show (0 : Int) ≠ 2 by decide)]; simp⟩
      unfold allS
      rw [List.mem_append, List.mem_append]
      exact .inl (.inl (mem_swN.2 ⟨a, b, hab.1, hab.2, h, rfl⟩))
    · obtain rfl : b = 0 := by omega
      refine ⟨⟨1, a, 0, 0⟩, ?_, by rw [covB_no (show (1 : Int) ≠ 2 by decide)]; simp⟩
      unfold allS
      rw [List.mem_append, List.mem_append]
      exact .inl (.inr (mem_cpN.2 ⟨a, han, h, rfl⟩))
    · have hr : 1 ≤ (b : Int) ∧ (b : Int) ≤ 30 := by
        rcases Classical.em (1 ≤ (b : Int) ∧ (b : Int) ≤ 30) with h1 | h1
        · exact h1
        · rw [works_lt_no h1] at h; cases h
      have hm : b ∈ ltD w a 30 := mem_ltD.2 ⟨by omega, h⟩
      obtain ⟨x, hx⟩ : ∃ x, x ∈ ltA w a := by
        unfold ltA
        cases hd : ltD w a 30 with
        | nil => rw [hd] at hm; cases hm
        | cons d r => exact ⟨_, List.mem_singleton.2 rfl⟩
      obtain ⟨b', c', rfl, _, _, _, hall⟩ := late_span hw han hx
      rw [hall] at h
      have h := of_decide_eq_true h
      refine ⟨⟨2, a, b', c'⟩, ?_, ?_⟩
      · unfold allS
        rw [List.mem_append]
        exact .inr (mem_ltN.2 ⟨a, han, hx⟩)
      · unfold covB
        rw [if_pos rfl]
        simp only [Bool.and_eq_true, beq_iff_eq, decide_eq_true_eq]
        exact ⟨⟨⟨trivial, trivial⟩, h.1⟩, h.2⟩
end Go.Mw
namespace Go.Mw
open Go.Proofs
attribute [local go_sem] decide_true beq_self_eq_true bne_self_eq_false
theorem misfit_fits {m : Walk} (hm : walkB m = true) : ((misfitR m).2.2 == 4) = fitsS m := by
  have h := misfits_fits m
  unfold misfitR
  rw [if_pos hm, ← h]
  cases misfitsS m <;> rfl
theorem any_take {p : Repair → Bool} {l : List Repair} {k : Nat} {x : Repair} (h : l[k]? = some x) : (l.take (k + 1)).any p = ((l.take k).any p || p x) := by
  rw [take_succ' h, List.any_append]; simp
theorem expl_all {w : Walk} (hw : walkB w = true) (hf : fitsS w = false) : explainR w = (allS w, if allS w = [] then 6 else 0) := by
  unfold explainR
  rw [if_pos hw, if_neg (by simp [hf])]
  split
  · rename_i h; rw [h]
  · rfl
theorem bad_pos {w : Walk} (hf : fitsS w = false) : 0 < w.readings.length := by
  rcases Nat.eq_zero_or_pos w.readings.length with h | h
  · exfalso
    have : fitsS w = true := fits_iff.2 fun j hj => by
      have h0 : ofS w j = [] := List.eq_nil_of_length_eq_zero (by have := len_ofS w j; omega)
      unfold badS
      rw [h0]; rfl
    rw [this] at hf; cases hf
  · exact h
theorem all_late {w : Walk} {x : Repair} (h : x ∈ allS w) (hk : x.kind = 2) : ∃ a : Nat, a < w.readings.length ∧ x ∈ ltA w a := by
  unfold allS at h
  rw [List.mem_append, List.mem_append] at h
  rcases h with (h | h) | h
  · obtain ⟨_, _, _, _, _, rfl⟩ := mem_swN.1 h
    simp at hk
  · obtain ⟨_, _, _, rfl⟩ := mem_cpN.1 h
    simp at hk
  · exact mem_ltN.1 h
theorem all_other {w : Walk} {x : Repair} (h : x ∈ allS w) (hk : ¬ x.kind = 2) : (x.kind = 0 ∨ x.kind = 1) ∧ x.c = 0 ∧ worksS w x = true := by
  unfold allS at h
  rw [List.mem_append, List.mem_append] at h
  rcases h with (h | h) | h
  · obtain ⟨_, _, _, _, h3, rfl⟩ := mem_swN.1 h
    exact ⟨.inl rfl, rfl, h3⟩
  · obtain ⟨_, _, h3, rfl⟩ := mem_cpN.1 h
    exact ⟨.inr rfl, rfl, h3⟩
  · obtain ⟨a, _, h⟩ := mem_ltN.1 h
    exact absurd (ltA_a h).1 hk
theorem cov_late {o : Repair} {a b c : Int} : covB o ⟨2, a, b, c⟩ = ((o.kind == 2 && o.a == a) && decide (o.b ≥ b) && decide (o.b ≤ c)) := if_pos rfl
theorem cov_ne {o x : Repair} (hk : ¬ x.kind = 2) : covB o x = (o.kind == x.kind && (o.a == x.a && (o.b == x.b && o.c == x.c))) := by
  rw [covB_no hk, Bool.eq_iff_iff]
  obtain ⟨a1, a2, a3, a4⟩ := o
  obtain ⟨b1, b2, b3, b4⟩ := x
  simp
theorem tmod_nat (a b : Nat) : ((a : Int)).tmod (b : Int) = ((a % b : Nat) : Int) := (Int.ofNat_tmod a b).symm
set_option maxRecDepth 20000 in
set_option maxHeartbeats 1000000 in
/-- meterworks/meterworkslaw12.CardRepairs_1 -/
theorem c_law_fits (w : Walk) (x : Repair) (h1 : w.rates.length ≤ 1000) (h2 : w.readings.length ≤ 20) (hw : walkB w = true) (hxb : -1000 ≤ x.b ∧ x.b ≤ 1000) : Contract Try.prog 30 [repairV x, .leaf (.d (.pt (walkD w)))] (.bool (worksS w x)) [] := by
  rcases hm : madeS w x with _ | m
  · skip
    have hr : worksS w x = false := by rw [worksS, hm]
    refine con_of follows_mixed Try.func30 rfl (by simp only [List.length_cons, List.length_nil, Try.ntmps30]; omega) (by kernel_rfl) rfl ?_
    refine Exec.reg ?_
    iterate 2 (refine Run.op (by simp only [go_sem, madeV, hm, hr] <;> rfl) (by simp only [go_sem] <;> rfl) ?_)
    refine Run.nil ?_
    refine Exec.reg ?_
    iterate 2 (refine Run.op (by simp only [go_sem, madeV, hm, hr] <;> rfl) (by simp only [go_sem] <;> rfl) ?_)
    refine Run.cal (c_meterworksref12_Made w x h1 (by omega) hw hxb) (by simp only [go_sem]) (by simp only [go_sem, madeV, hm, hr] <;> rfl) (by exact ⟨by first | exact WkR.pure rfl | exact WkR.nil _ | exact WkR.int (by first | omega | (simp; done) | (simp; omega)), by first | exact WkR.pure rfl | exact WkR.nil _ | exact WkR.int (by first | omega | (simp; done) | (simp; omega)), trivial⟩) (fr0) (by simp only [go_sem, madeV, hm, hr] <;> rfl) ?_
    iterate 6 (refine Run.op (by simp only [go_sem, madeV, hm, hr] <;> rfl) (by simp only [go_sem] <;> rfl) ?_)
    refine Run.nil ?_
    refine Exec.assocS ?_
    refine Exec.reg ?_
    iterate 2 (refine Run.op (by simp only [go_sem, madeV, hm, hr] <;> rfl) (by simp only [go_sem] <;> rfl) ?_)
    refine Run.nil ?_
    refine Exec.cndS (by simp only [go_sem, madeV, hm, hr] <;> rfl) (fun hb16 => ?_) (fun hb16 => ?_)
    · skip
      refine Exec.assocS ?_
      refine Exec.reg ?_
      refine Run.op (by simp only [go_sem, madeV, hm, hr] <;> rfl) (by simp only [go_sem] <;> rfl) ?_
      refine Run.nil ?_
      refine Exec.retS ?_
      exact Ends.fin [] (rs := [.tmp 3]) rfl (by simp only [go_sem, madeV, hm, hr] <;> rfl) (by simp only [go_sem, madeV, hm, hr] <;> first | rfl | ((repeat' (first | with_reducible_and_instances rfl | refine st_eq ?_ ?_ ?_ | refine ret_eq ?_ | refine tup_eq ?_ | refine tm_eq ?_ ?_ | refine arr_eq ?_ | refine cells_eq ?_ | refine val_eq ?_ | refine ls_eq ?_ ?_ | refine own_eq ?_ ?_ | refine sl_eq ?_ | refine b_eq ?_ | (refine i_eq ?_; omega))); done))
    · exact absurd hb16 (by simp)
  · skip
    obtain ⟨hok, hrt, hle⟩ := made_ok hw hm
    have hr : worksS w x = fitsS m := by rw [worksS, hm]
    have hmf := misfit_fits hok
    refine con_of follows_mixed Try.func30 rfl (by simp only [List.length_cons, List.length_nil, Try.ntmps30]; omega) (by kernel_rfl) rfl ?_
    refine Exec.reg ?_
    iterate 2 (refine Run.op (by simp only [go_sem, madeV, hm, hr, hmf] <;> rfl) (by simp only [go_sem] <;> rfl) ?_)
    refine Run.nil ?_
    refine Exec.reg ?_
    iterate 2 (refine Run.op (by simp only [go_sem, madeV, hm, hr, hmf] <;> rfl) (by simp only [go_sem] <;> rfl) ?_)
    refine Run.cal (c_meterworksref12_Made w x h1 (by omega) hw hxb) (by simp only [go_sem]) (by simp only [go_sem, madeV, hm, hr, hmf] <;> rfl) (by exact ⟨by first | exact WkR.pure rfl | exact WkR.nil _ | exact WkR.int (by first | omega | (simp; done) | (simp; omega)), by first | exact WkR.pure rfl | exact WkR.nil _ | exact WkR.int (by first | omega | (simp; done) | (simp; omega)), trivial⟩) (fr0) (by simp only [go_sem, madeV, hm, hr, hmf] <;> rfl) ?_
    iterate 6 (refine Run.op (by simp only [go_sem, madeV, hm, hr, hmf] <;> rfl) (by simp only [go_sem] <;> rfl) ?_)
    refine Run.nil ?_
    refine Exec.assocS ?_
    refine Exec.reg ?_
    iterate 2 (refine Run.op (by simp only [go_sem, madeV, hm, hr, hmf] <;> rfl) (by simp only [go_sem] <;> rfl) ?_)
    refine Run.nil ?_
    refine Exec.cndS (by simp only [go_sem, madeV, hm, hr, hmf] <;> rfl) (fun hb16 => ?_) (fun hb16 => ?_)
    · exact absurd hb16 (by simp)
    · skip
      refine Exec.skipS ?_
      refine Exec.reg ?_
      refine Run.op (by simp only [go_sem, madeV, hm, hr, hmf] <;> rfl) (by simp only [go_sem] <;> rfl) ?_
      refine Run.cal (c_card_Misfit m (by rw [hrt]; exact h1) (by omega) (fun _ => h20_of (by omega))) (by simp only [go_sem]) (by simp only [go_sem, madeV, hm, hr, hmf] <;> rfl) (by exact ⟨by first | exact WkR.pure rfl | exact WkR.nil _ | exact WkR.int (by first | omega | (simp; done) | (simp; omega)), trivial⟩) (fr0) (by simp only [go_sem, madeV, hm, hr, hmf] <;> rfl) ?_
      iterate 7 (refine Run.op (by simp only [go_sem, madeV, hm, hr, hmf] <;> rfl) (by simp only [go_sem] <;> rfl) ?_)
      refine Run.nil ?_
      refine Exec.reg ?_
      iterate 3 (refine Run.op (by simp only [go_sem, madeV, hm, hr, hmf] <;> rfl) (by simp only [go_sem] <;> rfl) ?_)
      refine Run.nil ?_
      exact Ends.fin [] (rs := [.tmp 3]) rfl (by simp only [go_sem, madeV, hm, hr, hmf] <;> rfl) (by simp only [go_sem, madeV, hm, hr, hmf] <;> first | rfl | ((repeat' (first | with_reducible_and_instances rfl | refine st_eq ?_ ?_ ?_ | refine ret_eq ?_ | refine tup_eq ?_ | refine tm_eq ?_ ?_ | refine arr_eq ?_ | refine cells_eq ?_ | refine val_eq ?_ | refine ls_eq ?_ ?_ | refine own_eq ?_ ?_ | refine sl_eq ?_ | refine b_eq ?_ | (refine i_eq ?_; omega))); done))

set_option maxRecDepth 20000 in
set_option maxHeartbeats 64000000 in
/-- meterworks/meterworkslaw12.CardRepairs -/
theorem c_law_CardRepairs (w : Walk) (p q r : Nat) (hp : p ≤ 255) (hq : q ≤ 255) (hr0 : r ≤ 255) : Contract Try.prog 8 [walkV w, .raw (.int .u8 (p : Int)), .raw (.int .u8 (q : Int)), .raw (.int .u8 (r : Int))] (.bool true) [] := by
  refine con_of follows_mixed Try.func8 rfl (by simp only [List.length_cons, List.length_nil, Try.ntmps8]; omega) (by kernel_rfl) rfl ?_
  refine Exec.reg ?_
  iterate 2 (refine Run.op (by simp only [go_sem] <;> rfl) (by simp only [go_sem] <;> rfl) ?_)
  refine Run.nil ?_
  refine Exec.assocS ?_
  refine Exec.reg ?_
  refine Run.op (by simp only [go_sem] <;> rfl) (by simp only [go_sem] <;> rfl) ?_
  refine Run.cal (c_law_great w 16) (by simp only [go_sem]) (by simp only [go_sem] <;> rfl) (by exact ⟨by first | exact WkR.pure rfl | exact WkR.nil _ | exact WkR.int (by first | omega | (simp; done) | (simp; omega)), by first | exact WkR.pure rfl | exact WkR.nil _ | exact WkR.int (by first | omega | (simp; done) | (simp; omega)), trivial⟩) (fr0) (by simp only [go_sem] <;> rfl) ?_
  refine Run.nil ?_
  refine Exec.cndS (by simp only [go_sem] <;> rfl) (fun hb23 => ?_) (fun hb23 => ?_)
  · skip
    refine Exec.assocS ?_
    refine Exec.reg ?_
    refine Run.cal (c_law_alive) (by simp only [go_sem]) (by simp only [go_sem] <;> rfl) (by exact trivial) (fr0) (by simp only [go_sem] <;> rfl) ?_
    refine Run.op (by simp only [go_sem] <;> rfl) (by simp only [go_sem] <;> rfl) ?_
    refine Run.nil ?_
    refine Exec.retS ?_
    exact Ends.fin [] (rs := [.tmp 8]) rfl (by simp only [go_sem] <;> rfl) (by simp only [go_sem] <;> first | rfl | ((repeat' (first | with_reducible_and_instances rfl | refine st_eq ?_ ?_ ?_ | refine ret_eq ?_ | refine tup_eq ?_ | refine tm_eq ?_ ?_ | refine arr_eq ?_ | refine cells_eq ?_ | refine val_eq ?_ | refine ls_eq ?_ ?_ | refine own_eq ?_ ?_ | refine sl_eq ?_ | refine b_eq ?_ | (refine i_eq ?_; omega))); done))
  have hg := great_no hb23
  have h1 : w.rates.length ≤ 1000 := by omega
  have h20 := h20_great hb23 (by omega)
  refine Exec.skipS ?_
  refine Exec.reg ?_
  refine Run.op (by simp only [go_sem] <;> rfl) (by simp only [go_sem] <;> rfl) ?_
  refine Run.cal (c_card_Explain w h1 (by omega) h20) (by simp only [go_sem]) (by simp only [go_sem] <;> rfl) (by exact ⟨by first | exact WkR.pure rfl | exact WkR.nil _ | exact WkR.int (by first | omega | (simp; done) | (simp; omega)), trivial⟩) (fr0) (by simp only [go_sem] <;> rfl) ?_
  iterate 5 (refine Run.op (by simp only [go_sem] <;> rfl) (by simp only [go_sem] <;> rfl) ?_)
  refine Run.nil ?_
  refine Exec.reg ?_
  refine Run.op (by simp only [go_sem] <;> rfl) (by simp only [go_sem] <;> rfl) ?_
  refine Run.cal (c_card_Misfit w h1 (by omega) h20) (by simp only [go_sem]) (by simp only [go_sem] <;> rfl) (by exact ⟨by first | exact WkR.pure rfl | exact WkR.nil _ | exact WkR.int (by first | omega | (simp; done) | (simp; omega)), trivial⟩) (fr0) (by simp only [go_sem] <;> rfl) ?_
  iterate 7 (refine Run.op (by simp only [go_sem] <;> rfl) (by simp only [go_sem] <;> rfl) ?_)
  refine Run.nil ?_
  refine Exec.assocS ?_
  refine Exec.reg ?_
  refine Run.op (by simp only [go_sem] <;> rfl) (by simp only [go_sem] <;> rfl) ?_
  refine Run.cal (c_meterworksref12_Walk w h1 (by omega)) (by simp only [go_sem]) (by simp only [go_sem] <;> rfl) (by exact ⟨by first | exact WkR.pure rfl | exact WkR.nil _ | exact WkR.int (by first | omega | (simp; done) | (simp; omega)), trivial⟩) (fr0) (by simp only [go_sem] <;> rfl) ?_
  refine Run.op (by simp only [go_sem] <;> rfl) (by simp only [go_sem] <;> rfl) ?_
  refine Run.nil ?_
  refine Exec.cndS (by simp only [go_sem] <;> rfl) (fun hb38 => ?_) (fun hb38 => ?_)
  · skip
    have hw : walkB w = false := by simpa using hb38
    have e1 : misfitR w = (0, 0, 1) := by rw [misfitR, if_neg (by simp [hw])]
    have e2 : explainR w = ([], 1) := by rw [explainR, if_neg (by simp [hw])]
    refine Exec.assocS ?_
    refine Exec.reg ?_
    refine Run.op (by simp only [go_sem] <;> rfl) (by simp only [go_sem] <;> rfl) ?_
    iterate 3 (refine Run.op (by simp only [go_sem, e1, e2] <;> rfl) (by simp only [go_sem] <;> rfl) ?_)
    refine Run.yes (by simp only [go_sem] <;> rfl) (by simp only [go_sem] <;> rfl) (by simp only [go_sem] <;> rfl) ?_
    refine Run.yes (by simp only [go_sem] <;> rfl) (by simp only [go_sem, e1, e2] <;> rfl) (by simp only [go_sem] <;> rfl) ?_
    iterate 2 (refine Run.op (by simp only [go_sem, e1, e2] <;> rfl) (by simp only [go_sem] <;> rfl) ?_)
    iterate 2 (refine Run.yes (by simp only [go_sem] <;> rfl) (by simp only [go_sem] <;> rfl) (by simp only [go_sem] <;> rfl) ?_)
    refine Run.yes (by simp only [go_sem] <;> rfl) (by simp only [go_sem, e1, e2] <;> rfl) (by simp only [go_sem] <;> rfl) ?_
    iterate 2 (refine Run.op (by simp only [go_sem, e1, e2] <;> rfl) (by simp only [go_sem] <;> rfl) ?_)
    refine Run.calw (by simp only [go_sem] <;> rfl) (c_law_alive) (by simp only [go_sem]) (by simp only [go_sem, e1, e2] <;> rfl) (by simp only [go_sem, e1, e2] <;> rfl) (by exact trivial) (fr0) (by simp only [go_sem, e1, e2] <;> rfl) ?_
    refine Run.op (by simp only [go_sem, e1, e2] <;> rfl) (by simp only [go_sem] <;> rfl) ?_
    refine Run.op (by simp only [go_sem] <;> rfl) (by simp only [go_sem] <;> rfl) ?_
    refine Run.nil ?_
    refine Exec.retS ?_
    exact Ends.fin [] (rs := [.tmp 8]) rfl (by simp only [go_sem, e1, e2] <;> rfl) (by simp only [go_sem, e1, e2] <;> first | rfl | ((repeat' (first | with_reducible_and_instances rfl | refine st_eq ?_ ?_ ?_ | refine ret_eq ?_ | refine tup_eq ?_ | refine tm_eq ?_ ?_ | refine arr_eq ?_ | refine cells_eq ?_ | refine val_eq ?_ | refine ls_eq ?_ ?_ | refine own_eq ?_ ?_ | refine sl_eq ?_ | refine b_eq ?_ | (refine i_eq ?_; omega))); done))
  have hw : walkB w = true := by simpa using hb38
  have hn20 := (walk_len hw).2.2
  have h2 : w.readings.length ≤ 20 := by omega
  refine Exec.skipS ?_
  refine Exec.assocS ?_
  refine Exec.reg ?_
  iterate 2 (refine Run.op (by simp only [go_sem] <;> rfl) (by simp only [go_sem] <;> rfl) ?_)
  refine Run.nil ?_
  refine Exec.cndS (by simp only [go_sem] <;> rfl) (fun hb55 => ?_) (fun hb55 => ?_)
  · skip
    have hm0 : ¬ (misfitR w).2.2 = 0 := by simpa using hb55
    have e2 := expl_no hm0
    have e1 : (misfitR w).2.2 = 4 := by
      unfold misfitR at hm0 ⊢
      rw [if_pos hw] at hm0 ⊢
      split at hm0
      · simp at hm0
      · rfl
    refine Exec.assocS ?_
    refine Exec.reg ?_
    refine Run.op (by simp only [go_sem] <;> rfl) (by simp only [go_sem] <;> rfl) ?_
    iterate 3 (refine Run.op (by simp only [go_sem, e1, e2] <;> rfl) (by simp only [go_sem] <;> rfl) ?_)
    refine Run.yes (by simp only [go_sem] <;> rfl) (by simp only [go_sem] <;> rfl) (by simp only [go_sem] <;> rfl) ?_
    refine Run.yes (by simp only [go_sem] <;> rfl) (by simp only [go_sem, e1, e2] <;> rfl) (by simp only [go_sem] <;> rfl) ?_
    iterate 2 (refine Run.op (by simp only [go_sem, e1, e2] <;> rfl) (by simp only [go_sem] <;> rfl) ?_)
    iterate 2 (refine Run.yes (by simp only [go_sem] <;> rfl) (by simp only [go_sem] <;> rfl) (by simp only [go_sem] <;> rfl) ?_)
    refine Run.yes (by simp only [go_sem] <;> rfl) (by simp only [go_sem, e1, e2] <;> rfl) (by simp only [go_sem] <;> rfl) ?_
    iterate 2 (refine Run.op (by simp only [go_sem, e1, e2] <;> rfl) (by simp only [go_sem] <;> rfl) ?_)
    refine Run.calw (by simp only [go_sem] <;> rfl) (c_law_alive) (by simp only [go_sem]) (by simp only [go_sem, e1, e2] <;> rfl) (by simp only [go_sem, e1, e2] <;> rfl) (by exact trivial) (fr0) (by simp only [go_sem, e1, e2] <;> rfl) ?_
    refine Run.op (by simp only [go_sem, e1, e2] <;> rfl) (by simp only [go_sem] <;> rfl) ?_
    refine Run.op (by simp only [go_sem] <;> rfl) (by simp only [go_sem] <;> rfl) ?_
    refine Run.nil ?_
    refine Exec.retS ?_
    exact Ends.fin [] (rs := [.tmp 8]) rfl (by simp only [go_sem, e1, e2] <;> rfl) (by simp only [go_sem, e1, e2] <;> first | rfl | ((repeat' (first | with_reducible_and_instances rfl | refine st_eq ?_ ?_ ?_ | refine ret_eq ?_ | refine tup_eq ?_ | refine tm_eq ?_ ?_ | refine arr_eq ?_ | refine cells_eq ?_ | refine val_eq ?_ | refine ls_eq ?_ ?_ | refine own_eq ?_ ?_ | refine sl_eq ?_ | refine b_eq ?_ | (refine i_eq ?_; omega))); done))
  have hm0 : (misfitR w).2.2 = 0 := by simpa using hb55
  obtain ⟨-, hf⟩ := misfit_zero hm0
  have hex := expl_all hw hf
  have hpos := bad_pos hf
  have hln := len_all hw
  have t3 : ((p : Int)).tmod 3 = ((p % 3 : Nat) : Int) := tmod_nat p 3
  have ta := tmod_nat q w.readings.length
  have tb := tmod_nat r w.readings.length
  have t30 : ((r : Int)).tmod 30 = ((r % 30 : Nat) : Int) := tmod_nat r 30
  have la := Nat.mod_lt q hpos
  have lb := Nat.mod_lt r hpos
  have l3 := Nat.mod_lt p (show 0 < 3 by omega)
  have l30 := Nat.mod_lt r (show 0 < 30 by omega)
  refine Exec.skipS ?_
  refine Exec.reg ?_
  refine Run.frz 4 (by simp only [go_sem] <;> rfl) ?_
  refine Run.op (by simp only [go_sem, hex, t3, ta, tb, t30] <;> rfl) (by simp only [go_sem] <;> rfl) ?_
  refine Run.op (by simp only [go_sem] <;> rfl) (by simp only [go_sem] <;> rfl) ?_
  refine Run.nil ?_
  refine Exec.reg ?_
  refine Run.frz 71 (by simp only [go_sem] <;> rfl) ?_
  refine Run.op (by simp only [go_sem] <;> rfl) (by simp only [go_sem] <;> rfl) ?_
  iterate 2 (refine Run.op (by simp only [go_sem, hex, t3, ta, tb, t30] <;> rfl) (by simp only [go_sem] <;> rfl) ?_)
  refine Run.op (by simp only [go_sem] <;> rfl) (by simp only [go_sem] <;> rfl) ?_
  refine Run.nil ?_
  refine Exec.opk 16 ?_
  refine OpenK.op (by simp only [go_sem] <;> rfl) (by simp only [go_sem] <;> rfl) (by simp only [go_sem] <;> rfl) ?_
  iterate 2 (refine OpenK.op (by simp only [go_sem, hex, t3, ta, tb, t30]; (try simp (disch := omega) only [IntWalk.i64_in, IntWalk.u64_in, if_neg, if_pos])<;> rfl) (by simp only [go_sem] <;> rfl) (by simp only [go_sem] <;> rfl) ?_)
  refine OpenK.op (by simp only [go_sem] <;> rfl) (by simp only [go_sem] <;> rfl) (by simp only [go_sem] <;> rfl) ?_
  refine OpenK.op (by simp only [go_sem, hex, t3, ta, tb, t30]; (try simp (disch := omega) only [IntWalk.i64_in, IntWalk.u64_in, if_neg, if_pos])<;> rfl) (by simp only [go_sem] <;> rfl) (by simp only [go_sem] <;> rfl) ?_
  refine OpenK.op (by simp only [go_sem] <;> rfl) (by simp only [go_sem] <;> rfl) (by simp only [go_sem] <;> rfl) ?_
  refine OpenK.op (by simp only [go_sem, hex, t3, ta, tb, t30]; (try simp (disch := omega) only [IntWalk.i64_in, IntWalk.u64_in, if_neg, if_pos])<;> rfl) (by simp only [go_sem] <;> rfl) (by simp only [go_sem] <;> rfl) ?_
  refine OpenK.op (by simp only [go_sem] <;> rfl) (by simp only [go_sem] <;> rfl) (by simp only [go_sem] <;> rfl) ?_
  refine OpenK.op (by simp only [go_sem, hex, t3, ta, tb, t30]; (try simp (disch := omega) only [IntWalk.i64_in, IntWalk.u64_in, if_neg, if_pos])<;> rfl) (by simp only [go_sem] <;> rfl) (by simp only [go_sem] <;> rfl) ?_
  refine OpenK.op (by simp only [go_sem] <;> rfl) (by simp only [go_sem] <;> rfl) (by simp only [go_sem] <;> rfl) ?_
  refine OpenK.op (by simp only [go_sem, hex, t3, ta, tb, t30]; (try simp (disch := omega) only [IntWalk.i64_in, IntWalk.u64_in, if_neg, if_pos])<;> rfl) (by simp only [go_sem] <;> rfl) (by simp only [go_sem] <;> rfl) ?_
  iterate 3 (refine OpenK.op (by simp only [go_sem] <;> rfl) (by simp only [go_sem] <;> rfl) (by simp only [go_sem] <;> rfl) ?_)
  refine OpenK.nil (OpenE.fin (by decide +kernel) (by decide +kernel) ?_)
  refine Exec.assocS ?_
  refine Exec.reg ?_
  refine Run.op (by simp only [go_sem] <;> rfl) (by simp only [go_sem] <;> rfl) ?_
  iterate 2 (refine Run.op (by simp only [go_sem, hex, t3, ta, tb, t30] <;> rfl) (by simp only [go_sem] <;> rfl) ?_)
  refine Run.nil ?_
  refine Exec.joinA [9, 10, 14, 16] [16] (fun (o : Repair) => [.obj 16 (.cells [.d (.i o.kind), .d (.i o.a), .d (.i o.b), .d (.i o.c)])]) (fun (o : Repair) => (o.kind = 0 ∨ (o.kind = 1 ∧ o.b = 0) ∨ o.kind = 2) ∧ (0 ≤ o.a ∧ o.a < w.readings.length) ∧ (0 ≤ o.b ∧ o.b ≤ 1000) ∧ o.c = 0) (fun o => by simp only [go_sem] <;> rfl) ?_ (fun o hj => ?_)
  · skip
    refine Exec.cnd (by simp only [go_sem, hex, t3, ta, tb, t30] <;> rfl) (fun hb89 => ?_) (fun hb89 => ?_)
    · skip
      have hk : p % 3 = 2 := by have : ((p % 3 : Nat) : Int) = 2 := by simpa using hb89
                                omega
      refine Exec.reg1 ?_
      refine Run.op (by simp only [go_sem] <;> rfl) (by simp only [go_sem] <;> rfl) ?_
      iterate 3 (refine Run.op (by simp only [go_sem, hex, t3, ta, tb, t30]; (try simp (disch := omega) only [IntWalk.i64_in, IntWalk.u64_in, if_neg, if_pos])<;> rfl) (by simp only [go_sem] <;> rfl) ?_)
      iterate 2 (refine Run.op (by simp only [go_sem] <;> rfl) (by simp only [go_sem] <;> rfl) ?_)
      refine Run.nil ?_
      refine JoinK.nrm (⟨2, ((q % w.readings.length : Nat) : Int), 1 + ((r % 30 : Nat) : Int), 0⟩) ?_ ?_
      · exact ⟨.inr (.inr rfl), ⟨by simp only; omega, by simp only; omega⟩, ⟨by simp only; omega, by simp only; omega⟩, rfl⟩
      · exact Ghost.kp [9, 10, 14, 16] [16] (by simp only [go_sem, hex, t3, ta, tb, t30]; first | ((repeat' (first | with_reducible_and_instances rfl | refine st_eq ?_ ?_ ?_ | refine ret_eq ?_ | refine tup_eq ?_ | refine tm_eq ?_ ?_ | refine arr_eq ?_ | refine cells_eq ?_ | refine val_eq ?_ | refine ls_eq ?_ ?_ | refine own_eq ?_ ?_ | refine sl_eq ?_ | refine b_eq ?_ | (refine i_eq ?_; omega))); (all_goals (simp; try omega))) | rfl)
    refine Exec.reg ?_
    refine Run.op (by simp only [go_sem] <;> rfl) (by simp only [go_sem] <;> rfl) ?_
    iterate 2 (refine Run.op (by simp only [go_sem, hex, t3, ta, tb, t30] <;> rfl) (by simp only [go_sem] <;> rfl) ?_)
    refine Run.nil ?_
    refine Exec.cnd (by simp only [go_sem, hex, t3, ta, tb, t30] <;> rfl) (fun hb97 => ?_) (fun hb97 => ?_)
    · skip
      have hk : p % 3 = 1 := by have : ((p % 3 : Nat) : Int) = 1 := by simpa using hb97
                                omega
      refine Exec.reg1 ?_
      iterate 2 (refine Run.op (by simp only [go_sem] <;> rfl) (by simp only [go_sem] <;> rfl) ?_)
      refine Run.nil ?_
      refine JoinK.nrm (⟨1, ((q % w.readings.length : Nat) : Int), 0, 0⟩) ?_ ?_
      · exact ⟨.inr (.inl ⟨rfl, rfl⟩), ⟨by simp only; omega, by simp only; omega⟩, ⟨by simp only; omega, by simp only; omega⟩, rfl⟩
      · exact Ghost.kp [9, 10, 14, 16] [16] (by simp only [go_sem, hex, t3, ta, tb, t30]; first | ((repeat' (first | with_reducible_and_instances rfl | refine st_eq ?_ ?_ ?_ | refine ret_eq ?_ | refine tup_eq ?_ | refine tm_eq ?_ ?_ | refine arr_eq ?_ | refine cells_eq ?_ | refine val_eq ?_ | refine ls_eq ?_ ?_ | refine own_eq ?_ ?_ | refine sl_eq ?_ | refine b_eq ?_ | (refine i_eq ?_; omega))); (all_goals (simp; try omega))) | rfl)
    have hk : p % 3 = 0 := by
      have h5 : ¬ ((p % 3 : Nat) : Int) = 1 := by simpa using hb97
      have h6 : ¬ ((p % 3 : Nat) : Int) = 2 := by simpa using hb89
      omega
    refine JoinK.nrm (⟨0, ((q % w.readings.length : Nat) : Int), ((r % w.readings.length : Nat) : Int), 0⟩) ?_ ?_
    · exact ⟨.inl rfl, ⟨by simp only; omega, by simp only; omega⟩, ⟨by simp only; omega, by simp only; omega⟩, rfl⟩
    · exact Ghost.kp [9, 10, 14, 16] [16] (by simp only [go_sem, hex, t3, ta, tb, t30]; first | ((repeat' (first | with_reducible_and_instances rfl | refine st_eq ?_ ?_ ?_ | refine ret_eq ?_ | refine tup_eq ?_ | refine tm_eq ?_ ?_ | refine arr_eq ?_ | refine cells_eq ?_ | refine val_eq ?_ | refine ls_eq ?_ ?_ | refine own_eq ?_ ?_ | refine sl_eq ?_ | refine b_eq ?_ | (refine i_eq ?_; omega))); (all_goals (simp; try omega))) | rfl)
  obtain ⟨ho1, ho2, ho3, ho4⟩ := hj
  refine Exec.reg ?_
  refine Run.op (by simp only [go_sem] <;> rfl) (by simp only [go_sem] <;> rfl) ?_
  refine Run.nil ?_
  refine Exec.assocS ?_
  refine Exec.reg ?_
  refine Run.op (by simp only [go_sem] <;> rfl) (by simp only [go_sem] <;> rfl) ?_
  refine Run.op (by simp only [go_sem, hex, t3, ta, tb, t30] <;> rfl) (by simp only [go_sem] <;> rfl) ?_
  refine Run.op (by simp only [go_sem] <;> rfl) (by simp only [go_sem] <;> rfl) ?_
  refine Run.nil ?_
  refine Exec.blk ?_
  refine Exec.forA [9, 10, 14, 16, 17, 99, 100, 101] [16] ((allS w).length) (fun k => [.slot 101 (.int k), .slot 17 (.bool (((allS w).take k).any (covB o)))]) (fun _ => True) (fun k => by simp only [go_sem] <;> rfl) (by simp only [go_sem, hex, t3, ta, tb, t30, List.take_zero, List.any_nil, Int.natCast_zero] <;> rfl) ?_ (fun k hk hX => ?_)
  · trivial
  refine Exec.reg ?_
  refine Run.op (by simp only [go_sem, hex, t3, ta, tb, t30] <;> rfl) (by simp only [go_sem] <;> rfl) ?_
  refine Run.nil ?_
  refine Exec.cndS (by simp only [go_sem, hex, t3, ta, tb, t30] <;> rfl) (fun hb102 => ?_) (fun hb102 => ?_)
  · skip
    have hlt := lt_of_dec hb102
    obtain ⟨x, hx⟩ : ∃ x, (allS w)[k]? = some x := ⟨_, List.getElem?_eq_getElem hlt⟩
    have hxm := List.mem_of_getElem? hx
    have hxb := allS_b hn20 hxm
    have hnx := any_take (p := covB o) hx
    refine Exec.skipS ?_
    refine Exec.blk ?_
    refine Exec.reg ?_
    refine Run.op (by simp only [go_sem] <;> rfl) (by simp only [go_sem] <;> rfl) ?_
    refine Run.op (by simp only [go_sem, hex, t3, ta, tb, t30, hx]; (try simp (disch := omega) only [if_pos]); (try simp only [go_sem, hex, t3, ta, tb, t30, hx])<;> rfl) (by simp only [go_sem] <;> rfl) ?_
    refine Run.op (by simp only [go_sem, hex, t3, ta, tb, t30, hx] <;> rfl) (by simp only [go_sem] <;> rfl) ?_
    iterate 3 (refine Run.op (by simp only [go_sem] <;> rfl) (by simp only [go_sem] <;> rfl) ?_)
    refine Run.nil ?_
    refine Exec.assocS ?_
    refine Exec.reg ?_
    refine Run.op (by simp only [go_sem] <;> rfl) (by simp only [go_sem] <;> rfl) ?_
    refine Run.op (by simp only [go_sem, hex, t3, ta, tb, t30, hx] <;> rfl) (by simp only [go_sem] <;> rfl) ?_
    refine Run.nil ?_
    refine Exec.joinA [9, 10, 14, 16, 17, 18, 19, 99, 100, 101] [16, 19] (fun (u1 : Unit) => []) (fun (u1 : Unit) => True) (fun u1 => by simp only [go_sem] <;> rfl) ?_ (fun u1 hj => ?_)
    · skip
      refine Exec.cnd (by simp only [go_sem, hex, t3, ta, tb, t30, hx] <;> rfl) (fun hb107 => ?_) (fun hb107 => ?_)
      · skip
        have hk1 : 0 < k := by have := of_decide_eq_true hb107; omega
        obtain ⟨y, hy⟩ : ∃ y, (allS w)[k - 1]? = some y := ⟨_, List.getElem?_eq_getElem (by omega)⟩
        have hor : ordR y x := by
          obtain ⟨q1, rfl⟩ := List.getElem?_eq_some_iff.1 hx
          obtain ⟨q2, rfl⟩ := List.getElem?_eq_some_iff.1 hy
          exact List.pairwise_iff_getElem.1 (all_pw w) (k - 1) k q2 q1 (by omega)
        have t1 : ((k : Int) - 1).toNat = k - 1 := by omega
        by_cases hkl : y.kind < x.kind
        · skip
          have g1 : decide (x.kind < y.kind) = false := by simp; omega
          have g2 : (x.kind == y.kind) = false := by simp; omega
          refine Exec.reg ?_
          iterate 2 (refine Run.op (by simp only [go_sem] <;> rfl) (by simp only [go_sem] <;> rfl) ?_)
          refine Run.op (by simp only [go_sem, hex, t3, ta, tb, t30, hx, hy, t1, g1, g2]; (try simp (disch := omega) only [IntWalk.i64_in, IntWalk.u64_in, if_neg, if_pos])<;> rfl) (by simp only [go_sem] <;> rfl) ?_
          refine Run.op (by simp only [go_sem, hex, t3, ta, tb, t30, hx, hy, t1, g1, g2]; (try simp (disch := omega) only [if_pos]); (try simp only [go_sem, hex, t3, ta, tb, t30, hx, hy, t1, g1, g2])<;> rfl) (by simp only [go_sem] <;> rfl) ?_
          refine Run.op (by simp only [go_sem, hex, t3, ta, tb, t30, hx, hy, t1, g1, g2] <;> rfl) (by simp only [go_sem] <;> rfl) ?_
          iterate 2 (refine Run.op (by simp only [go_sem] <;> rfl) (by simp only [go_sem] <;> rfl) ?_)
          refine Run.nil ?_
          refine Exec.reg ?_
          refine Run.op (by simp only [go_sem] <;> rfl) (by simp only [go_sem] <;> rfl) ?_
          refine Run.op (by simp only [go_sem, hex, t3, ta, tb, t30, hx, hy, t1, g1, g2] <;> rfl) (by simp only [go_sem] <;> rfl) ?_
          refine Run.op (by simp only [go_sem] <;> rfl) (by simp only [go_sem] <;> rfl) ?_
          iterate 3 (refine Run.op (by simp only [go_sem, hex, t3, ta, tb, t30, hx, hy, t1, g1, g2] <;> rfl) (by simp only [go_sem] <;> rfl) ?_)
          refine Run.yes (by simp only [go_sem] <;> rfl) (by simp only [go_sem] <;> rfl) (by simp only [go_sem] <;> rfl) ?_
          refine Run.yes (by simp only [go_sem] <;> rfl) (by simp only [go_sem, hex, t3, ta, tb, t30, hx, hy, t1, g1, g2] <;> rfl) (by simp only [go_sem] <;> rfl) ?_
          refine Run.yes (by simp only [go_sem] <;> rfl) (by simp only [go_sem] <;> rfl) (by simp only [go_sem] <;> rfl) ?_
          iterate 3 (refine Run.yes (by simp only [go_sem] <;> rfl) (by simp only [go_sem, hex, t3, ta, tb, t30, hx, hy, t1, g1, g2] <;> rfl) (by simp only [go_sem] <;> rfl) ?_)
          iterate 24 (refine Run.skp (by simp only [go_sem] <;> rfl) (by simp only [go_sem] <;> rfl) ?_)
          refine Run.yes (by simp only [go_sem] <;> rfl) (by simp only [go_sem, hex, t3, ta, tb, t30, hx, hy, t1, g1, g2] <;> rfl) (by simp only [go_sem] <;> rfl) ?_
          refine Run.op (by simp only [go_sem, hex, t3, ta, tb, t30, hx, hy, t1, g1, g2] <;> rfl) (by simp only [go_sem] <;> rfl) ?_
          refine Run.nil ?_
          refine Exec.cnd (by simp only [go_sem, hex, t3, ta, tb, t30, hx, hy, t1, g1, g2] <;> rfl) (fun hb150 => ?_) (fun hb150 => ?_)
          · skip
            exact absurd hb150 (by simp)
          refine JoinK.nrm (()) ?_ ?_
          · trivial
          · exact Ghost.kp [9, 10, 14, 16, 17, 18, 19, 99, 100, 101] [16, 19] (by simp only [go_sem, hex, t3, ta, tb, t30, hx, hy, t1, g1, g2]; first | ((repeat' (first | with_reducible_and_instances rfl | refine st_eq ?_ ?_ ?_ | refine ret_eq ?_ | refine tup_eq ?_ | refine tm_eq ?_ ?_ | refine arr_eq ?_ | refine cells_eq ?_ | refine val_eq ?_ | refine ls_eq ?_ ?_ | refine own_eq ?_ ?_ | refine sl_eq ?_ | refine b_eq ?_ | (refine i_eq ?_; omega))); done) | rfl)
        have hor1 : y.kind = x.kind ∧ (y.a < x.a ∨ (y.a = x.a ∧ x.kind = 0 ∧ y.b < x.b)) := by unfold ordR at hor; omega
        have g1 : decide (x.kind < y.kind) = false := by simp; omega
        have g2 : (x.kind == y.kind) = true := by simp; omega
        refine Exec.reg ?_
        iterate 2 (refine Run.op (by simp only [go_sem] <;> rfl) (by simp only [go_sem] <;> rfl) ?_)
        refine Run.op (by simp only [go_sem, hex, t3, ta, tb, t30, hx, hy, t1, g1, g2]; (try simp (disch := omega) only [IntWalk.i64_in, IntWalk.u64_in, if_neg, if_pos])<;> rfl) (by simp only [go_sem] <;> rfl) ?_
        refine Run.op (by simp only [go_sem, hex, t3, ta, tb, t30, hx, hy, t1, g1, g2]; (try simp (disch := omega) only [if_pos]); (try simp only [go_sem, hex, t3, ta, tb, t30, hx, hy, t1, g1, g2])<;> rfl) (by simp only [go_sem] <;> rfl) ?_
        refine Run.op (by simp only [go_sem, hex, t3, ta, tb, t30, hx, hy, t1, g1, g2] <;> rfl) (by simp only [go_sem] <;> rfl) ?_
        iterate 2 (refine Run.op (by simp only [go_sem] <;> rfl) (by simp only [go_sem] <;> rfl) ?_)
        refine Run.nil ?_
        by_cases hal : y.a < x.a
        · skip
          have g3 : decide (x.a < y.a) = false := by simp; omega
          have g4 : (x.a == y.a) = false := by simp; omega
          refine Exec.reg ?_
          refine Run.op (by simp only [go_sem] <;> rfl) (by simp only [go_sem] <;> rfl) ?_
          refine Run.op (by simp only [go_sem, hex, t3, ta, tb, t30, hx, hy, t1, g1, g2, g3, g4] <;> rfl) (by simp only [go_sem] <;> rfl) ?_
          refine Run.op (by simp only [go_sem] <;> rfl) (by simp only [go_sem] <;> rfl) ?_
          iterate 3 (refine Run.op (by simp only [go_sem, hex, t3, ta, tb, t30, hx, hy, t1, g1, g2, g3, g4] <;> rfl) (by simp only [go_sem] <;> rfl) ?_)
          refine Run.yes (by simp only [go_sem] <;> rfl) (by simp only [go_sem] <;> rfl) (by simp only [go_sem] <;> rfl) ?_
          refine Run.yes (by simp only [go_sem] <;> rfl) (by simp only [go_sem, hex, t3, ta, tb, t30, hx, hy, t1, g1, g2, g3, g4] <;> rfl) (by simp only [go_sem] <;> rfl) ?_
          refine Run.yes (by simp only [go_sem] <;> rfl) (by simp only [go_sem] <;> rfl) (by simp only [go_sem] <;> rfl) ?_
          iterate 3 (refine Run.yes (by simp only [go_sem] <;> rfl) (by simp only [go_sem, hex, t3, ta, tb, t30, hx, hy, t1, g1, g2, g3, g4] <;> rfl) (by simp only [go_sem] <;> rfl) ?_)
          refine Run.yes (by simp only [go_sem] <;> rfl) (by simp only [go_sem] <;> rfl) (by simp only [go_sem] <;> rfl) ?_
          refine Run.yes (by simp only [go_sem] <;> rfl) (by simp only [go_sem, hex, t3, ta, tb, t30, hx, hy, t1, g1, g2, g3, g4] <;> rfl) (by simp only [go_sem] <;> rfl) ?_
          refine Run.yes (by simp only [go_sem] <;> rfl) (by simp only [go_sem] <;> rfl) (by simp only [go_sem] <;> rfl) ?_
          iterate 3 (refine Run.yes (by simp only [go_sem] <;> rfl) (by simp only [go_sem, hex, t3, ta, tb, t30, hx, hy, t1, g1, g2, g3, g4] <;> rfl) (by simp only [go_sem] <;> rfl) ?_)
          refine Run.yes (by simp only [go_sem] <;> rfl) (by simp only [go_sem] <;> rfl) (by simp only [go_sem] <;> rfl) ?_
          refine Run.yes (by simp only [go_sem] <;> rfl) (by simp only [go_sem, hex, t3, ta, tb, t30, hx, hy, t1, g1, g2, g3, g4] <;> rfl) (by simp only [go_sem] <;> rfl) ?_
          refine Run.yes (by simp only [go_sem] <;> rfl) (by simp only [go_sem] <;> rfl) (by simp only [go_sem] <;> rfl) ?_
          iterate 3 (refine Run.yes (by simp only [go_sem] <;> rfl) (by simp only [go_sem, hex, t3, ta, tb, t30, hx, hy, t1, g1, g2, g3, g4] <;> rfl) (by simp only [go_sem] <;> rfl) ?_)
          iterate 10 (refine Run.skp (by simp only [go_sem] <;> rfl) (by simp only [go_sem] <;> rfl) ?_)
          iterate 3 (refine Run.yes (by simp only [go_sem] <;> rfl) (by simp only [go_sem, hex, t3, ta, tb, t30, hx, hy, t1, g1, g2, g3, g4] <;> rfl) (by simp only [go_sem] <;> rfl) ?_)
          refine Run.op (by simp only [go_sem, hex, t3, ta, tb, t30, hx, hy, t1, g1, g2, g3, g4] <;> rfl) (by simp only [go_sem] <;> rfl) ?_
          refine Run.nil ?_
          refine Exec.cnd (by simp only [go_sem, hex, t3, ta, tb, t30, hx, hy, t1, g1, g2, g3, g4] <;> rfl) (fun hb150 => ?_) (fun hb150 => ?_)
          · skip
            exact absurd hb150 (by simp)
          refine JoinK.nrm (()) ?_ ?_
          · trivial
          · exact Ghost.kp [9, 10, 14, 16, 17, 18, 19, 99, 100, 101] [16, 19] (by simp only [go_sem, hex, t3, ta, tb, t30, hx, hy, t1, g1, g2, g3, g4]; first | ((repeat' (first | with_reducible_and_instances rfl | refine st_eq ?_ ?_ ?_ | refine ret_eq ?_ | refine tup_eq ?_ | refine tm_eq ?_ ?_ | refine arr_eq ?_ | refine cells_eq ?_ | refine val_eq ?_ | refine ls_eq ?_ ?_ | refine own_eq ?_ ?_ | refine sl_eq ?_ | refine b_eq ?_ | (refine i_eq ?_; omega))); done) | rfl)
        have g3 : decide (x.a < y.a) = false := by simp; omega
        have g4 : (x.a == y.a) = true := by simp; omega
        have g5 : (x.kind != 0) = false := by simp; omega
        have g6 : decide (x.b ≤ y.b) = false := by simp; omega
        refine Exec.reg ?_
        refine Run.op (by simp only [go_sem] <;> rfl) (by simp only [go_sem] <;> rfl) ?_
        refine Run.op (by simp only [go_sem, hex, t3, ta, tb, t30, hx, hy, t1, g1, g2, g3, g4, g5, g6] <;> rfl) (by simp only [go_sem] <;> rfl) ?_
        refine Run.op (by simp only [go_sem] <;> rfl) (by simp only [go_sem] <;> rfl) ?_
        iterate 3 (refine Run.op (by simp only [go_sem, hex, t3, ta, tb, t30, hx, hy, t1, g1, g2, g3, g4, g5, g6] <;> rfl) (by simp only [go_sem] <;> rfl) ?_)
        refine Run.yes (by simp only [go_sem] <;> rfl) (by simp only [go_sem] <;> rfl) (by simp only [go_sem] <;> rfl) ?_
        refine Run.yes (by simp only [go_sem] <;> rfl) (by simp only [go_sem, hex, t3, ta, tb, t30, hx, hy, t1, g1, g2, g3, g4, g5, g6] <;> rfl) (by simp only [go_sem] <;> rfl) ?_
        refine Run.yes (by simp only [go_sem] <;> rfl) (by simp only [go_sem] <;> rfl) (by simp only [go_sem] <;> rfl) ?_
        iterate 3 (refine Run.yes (by simp only [go_sem] <;> rfl) (by simp only [go_sem, hex, t3, ta, tb, t30, hx, hy, t1, g1, g2, g3, g4, g5, g6] <;> rfl) (by simp only [go_sem] <;> rfl) ?_)
        refine Run.yes (by simp only [go_sem] <;> rfl) (by simp only [go_sem] <;> rfl) (by simp only [go_sem] <;> rfl) ?_
        refine Run.yes (by simp only [go_sem] <;> rfl) (by simp only [go_sem, hex, t3, ta, tb, t30, hx, hy, t1, g1, g2, g3, g4, g5, g6] <;> rfl) (by simp only [go_sem] <;> rfl) ?_
        refine Run.yes (by simp only [go_sem] <;> rfl) (by simp only [go_sem] <;> rfl) (by simp only [go_sem] <;> rfl) ?_
        iterate 3 (refine Run.yes (by simp only [go_sem] <;> rfl) (by simp only [go_sem, hex, t3, ta, tb, t30, hx, hy, t1, g1, g2, g3, g4, g5, g6] <;> rfl) (by simp only [go_sem] <;> rfl) ?_)
        refine Run.yes (by simp only [go_sem] <;> rfl) (by simp only [go_sem] <;> rfl) (by simp only [go_sem] <;> rfl) ?_
        refine Run.yes (by simp only [go_sem] <;> rfl) (by simp only [go_sem, hex, t3, ta, tb, t30, hx, hy, t1, g1, g2, g3, g4, g5, g6] <;> rfl) (by simp only [go_sem] <;> rfl) ?_
        refine Run.yes (by simp only [go_sem] <;> rfl) (by simp only [go_sem] <;> rfl) (by simp only [go_sem] <;> rfl) ?_
        iterate 3 (refine Run.yes (by simp only [go_sem] <;> rfl) (by simp only [go_sem, hex, t3, ta, tb, t30, hx, hy, t1, g1, g2, g3, g4, g5, g6] <;> rfl) (by simp only [go_sem] <;> rfl) ?_)
        refine Run.yes (by simp only [go_sem] <;> rfl) (by simp only [go_sem] <;> rfl) (by simp only [go_sem] <;> rfl) ?_
        iterate 3 (refine Run.yes (by simp only [go_sem] <;> rfl) (by simp only [go_sem, hex, t3, ta, tb, t30, hx, hy, t1, g1, g2, g3, g4, g5, g6] <;> rfl) (by simp only [go_sem] <;> rfl) ?_)
        refine Run.yes (by simp only [go_sem] <;> rfl) (by simp only [go_sem] <;> rfl) (by simp only [go_sem] <;> rfl) ?_
        refine Run.yes (by simp only [go_sem] <;> rfl) (by simp only [go_sem, hex, t3, ta, tb, t30, hx, hy, t1, g1, g2, g3, g4, g5, g6] <;> rfl) (by simp only [go_sem] <;> rfl) ?_
        refine Run.yes (by simp only [go_sem] <;> rfl) (by simp only [go_sem] <;> rfl) (by simp only [go_sem] <;> rfl) ?_
        iterate 6 (refine Run.yes (by simp only [go_sem] <;> rfl) (by simp only [go_sem, hex, t3, ta, tb, t30, hx, hy, t1, g1, g2, g3, g4, g5, g6] <;> rfl) (by simp only [go_sem] <;> rfl) ?_)
        refine Run.op (by simp only [go_sem, hex, t3, ta, tb, t30, hx, hy, t1, g1, g2, g3, g4, g5, g6] <;> rfl) (by simp only [go_sem] <;> rfl) ?_
        refine Run.nil ?_
        refine Exec.cnd (by simp only [go_sem, hex, t3, ta, tb, t30, hx, hy, t1, g1, g2, g3, g4, g5, g6] <;> rfl) (fun hb150 => ?_) (fun hb150 => ?_)
        · skip
          exact absurd hb150 (by simp)
        refine JoinK.nrm (()) ?_ ?_
        · trivial
        · exact Ghost.kp [9, 10, 14, 16, 17, 18, 19, 99, 100, 101] [16, 19] (by simp only [go_sem, hex, t3, ta, tb, t30, hx, hy, t1, g1, g2, g3, g4, g5, g6]; first | ((repeat' (first | with_reducible_and_instances rfl | refine st_eq ?_ ?_ ?_ | refine ret_eq ?_ | refine tup_eq ?_ | refine tm_eq ?_ ?_ | refine arr_eq ?_ | refine cells_eq ?_ | refine val_eq ?_ | refine ls_eq ?_ ?_ | refine own_eq ?_ ?_ | refine sl_eq ?_ | refine b_eq ?_ | (refine i_eq ?_; omega))); done) | rfl)
      refine JoinK.nrm (()) ?_ ?_
      · trivial
      · exact Ghost.kp [9, 10, 14, 16, 17, 18, 19, 99, 100, 101] [16, 19] (by simp only [go_sem, hex, t3, ta, tb, t30, hx]; first | ((repeat' (first | with_reducible_and_instances rfl | refine st_eq ?_ ?_ ?_ | refine ret_eq ?_ | refine tup_eq ?_ | refine tm_eq ?_ ?_ | refine arr_eq ?_ | refine cells_eq ?_ | refine val_eq ?_ | refine ls_eq ?_ ?_ | refine own_eq ?_ ?_ | refine sl_eq ?_ | refine b_eq ?_ | (refine i_eq ?_; omega))); done) | rfl)
    by_cases hk2 : x.kind = 2
    · skip
      obtain ⟨a, ha, hxa⟩ := all_late hxm hk2
      obtain ⟨b, c, rfl, hb1, hbc, hc30, hall⟩ := late_span hw ha hxa
      refine Exec.reg ?_
      refine Run.op (by simp only [go_sem] <;> rfl) (by simp only [go_sem] <;> rfl) ?_
      refine Run.op (by simp only [go_sem, hex, t3, ta, tb, t30, hx, hnx, cov_late] <;> rfl) (by simp only [go_sem] <;> rfl) ?_
      refine Run.nil ?_
      refine Exec.blk1 ?_
      refine Exec.reg ?_
      refine Run.op (by simp only [go_sem, hex, t3, ta, tb, t30, hx, hnx, cov_late] <;> rfl) (by simp only [go_sem] <;> rfl) ?_
      refine Run.op (by simp only [go_sem] <;> rfl) (by simp only [go_sem] <;> rfl) ?_
      refine Run.nil ?_
      refine Exec.cnd (by simp only [go_sem, hex, t3, ta, tb, t30, hx, hnx, cov_late] <;> rfl) (fun hb153 => ?_) (fun hb153 => ?_)
      · skip
        refine Exec.assocS ?_
        by_cases h17 : ((allS w).take k).any (covB o) = true
        · skip
          refine Exec.reg ?_
          refine Run.op (by simp only [go_sem] <;> rfl) (by simp only [go_sem] <;> rfl) ?_
          iterate 3 (refine Run.op (by simp only [go_sem, hex, t3, ta, tb, t30, hx, hnx, cov_late, h17] <;> rfl) (by simp only [go_sem] <;> rfl) ?_)
          refine Run.gop (by simp only [go_sem] <;> rfl) (by simp only [go_sem] <;> rfl) (by simp only [go_sem] <;> rfl) ?_
          refine Run.gop (by simp only [go_sem] <;> rfl) (by simp only [go_sem, hex, t3, ta, tb, t30, hx, hnx, cov_late, h17] <;> rfl) (by simp only [go_sem] <;> rfl) ?_
          refine Run.gop (by simp only [go_sem] <;> rfl) (by simp only [go_sem] <;> rfl) (by simp only [go_sem] <;> rfl) ?_
          iterate 2 (refine Run.gop (by simp only [go_sem] <;> rfl) (by simp only [go_sem, hex, t3, ta, tb, t30, hx, hnx, cov_late, h17] <;> rfl) (by simp only [go_sem] <;> rfl) ?_)
          iterate 2 (refine Run.op (by simp only [go_sem, hex, t3, ta, tb, t30, hx, hnx, cov_late, h17] <;> rfl) (by simp only [go_sem] <;> rfl) ?_)
          refine Run.gop (by simp only [go_sem] <;> rfl) (by simp only [go_sem] <;> rfl) (by simp only [go_sem] <;> rfl) ?_
          iterate 2 (refine Run.gop (by simp only [go_sem] <;> rfl) (by simp only [go_sem, hex, t3, ta, tb, t30, hx, hnx, cov_late, h17] <;> rfl) (by simp only [go_sem] <;> rfl) ?_)
          refine Run.op (by simp only [go_sem, hex, t3, ta, tb, t30, hx, hnx, cov_late, h17] <;> rfl) (by simp only [go_sem] <;> rfl) ?_
          refine Run.nil ?_
          refine Exec.cndS (by simp only [go_sem, hex, t3, ta, tb, t30, hx, hnx, cov_late, h17] <;> rfl) (fun hb169 => ?_) (fun hb169 => ?_)
          · skip
            exfalso
            simp at hb169
            omega
          refine Exec.skipS ?_
          refine Exec.assocS ?_
          refine Exec.reg ?_
          refine Run.op (by simp only [go_sem] <;> rfl) (by simp only [go_sem] <;> rfl) ?_
          refine Run.op (by simp only [go_sem, hex, t3, ta, tb, t30, hx, hnx, cov_late, h17] <;> rfl) (by simp only [go_sem] <;> rfl) ?_
          refine Run.op (by simp only [go_sem, hex, t3, ta, tb, t30, hx, hnx, cov_late, h17]; (try simp (disch := omega) only [IntWalk.i64_in, IntWalk.u64_in, if_neg, if_pos])<;> rfl) (by simp only [go_sem] <;> rfl) ?_
          refine Run.op (by simp only [go_sem] <;> rfl) (by simp only [go_sem] <;> rfl) ?_
          refine Run.nil ?_
          refine Exec.blk ?_
          refine Exec.forA [9, 10, 14, 16, 17, 19, 21, 99, 100, 101] [16, 19] (c - b + 3) (fun d => [.slot 21 (.int ((b : Int) - 1 + (d : Int)))]) (fun _ => True) (fun d => by simp only [go_sem] <;> rfl) (by simp only [go_sem, hex, t3, ta, tb, t30, hx, hnx, cov_late, h17, Int.natCast_zero, Int.add_zero] <;> rfl) ?_ (fun d hd Xd => ?_)
          · trivial
          refine Exec.assocS ?_
          refine Exec.reg ?_
          iterate 2 (refine Run.op (by simp only [go_sem] <;> rfl) (by simp only [go_sem] <;> rfl) ?_)
          refine Run.op (by simp only [go_sem, hex, t3, ta, tb, t30, hx, hnx, cov_late, h17] <;> rfl) (by simp only [go_sem] <;> rfl) ?_
          refine Run.op (by simp only [go_sem, hex, t3, ta, tb, t30, hx, hnx, cov_late, h17]; (try simp (disch := omega) only [IntWalk.i64_in, IntWalk.u64_in, if_neg, if_pos])<;> rfl) (by simp only [go_sem] <;> rfl) ?_
          refine Run.op (by simp only [go_sem, hex, t3, ta, tb, t30, hx, hnx, cov_late, h17] <;> rfl) (by simp only [go_sem] <;> rfl) ?_
          refine Run.nil ?_
          refine Exec.cndS (by simp only [go_sem, hex, t3, ta, tb, t30, hx, hnx, cov_late, h17] <;> rfl) (fun hb177 => ?_) (fun hb177 => ?_)
          · skip
            have hd1 : (b : Int) - 1 + (d : Int) ≤ (c : Int) + 1 := of_decide_eq_true hb177
            have hd2 : d < c - b + 3 := by omega
            refine Exec.skipS ?_
            refine Exec.blk ?_
            by_cases hbd : (b : Int) ≤ (b : Int) - 1 + (d : Int)
            · skip
              have hg1 : decide ((b : Int) - 1 + (d : Int) ≥ (b : Int)) = true := by simpa using hbd
              have hv : worksS w ⟨2, (a : Int), (b : Int) - 1 + (d : Int), 0⟩ = decide ((b : Int) - 1 + (d : Int) ≤ (c : Int)) := by
                rw [hall, Bool.eq_iff_iff]; simp; omega
              refine Exec.opk 19 ?_
              iterate 2 (refine OpenK.op (by simp only [go_sem] <;> rfl) (by simp only [go_sem] <;> rfl) (by simp only [go_sem] <;> rfl) ?_)
              refine OpenK.op (by simp only [go_sem, hex, t3, ta, tb, t30, hx, hnx, cov_late, h17, hg1, hv] <;> rfl) (by simp only [go_sem] <;> rfl) (by simp only [go_sem] <;> rfl) ?_
              iterate 2 (refine OpenK.op (by simp only [go_sem] <;> rfl) (by simp only [go_sem] <;> rfl) (by simp only [go_sem] <;> rfl) ?_)
              refine OpenK.calw (by simp only [go_sem] <;> rfl) (c_law_fits w (⟨2, (a : Int), (b : Int) - 1 + (d : Int), 0⟩) h1 h2 hw (by simp only; omega)) (by simp only [go_sem]) (by simp only [go_sem, hex, t3, ta, tb, t30, hx, hnx, cov_late, h17, hg1, hv] <;> rfl) (by simp only [go_sem, hex, t3, ta, tb, t30, hx, hnx, cov_late, h17, hg1, hv] <;> rfl) (by exact ⟨by first | exact WkR.pure rfl | exact WkR.nil _ | exact WkR.int (by first | omega | (simp; done) | (simp; omega)), by first | exact WkR.pure rfl | exact WkR.nil _ | exact WkR.int (by first | omega | (simp; done) | (simp; omega)), trivial⟩) (fr0) (by simp only [go_sem, hex, t3, ta, tb, t30, hx, hnx, cov_late, h17, hg1, hv] <;> rfl) (by simp only [go_sem] <;> rfl) (by simp only [go_sem] <;> rfl) ?_
              iterate 2 (refine OpenK.op (by simp only [go_sem] <;> rfl) (by simp only [go_sem] <;> rfl) (by simp only [go_sem] <;> rfl) ?_)
              iterate 3 (refine OpenK.op (by simp only [go_sem, hex, t3, ta, tb, t30, hx, hnx, cov_late, h17, hg1, hv] <;> rfl) (by simp only [go_sem] <;> rfl) (by simp only [go_sem] <;> rfl) ?_)
              iterate 2 (refine OpenK.yes (by simp only [go_sem] <;> rfl) (by simp only [go_sem] <;> rfl) (by simp only [go_sem] <;> rfl) (by simp only [go_sem] <;> rfl) ?_)
              iterate 2 (refine OpenK.yes (by simp only [go_sem] <;> rfl) (by simp only [go_sem, hex, t3, ta, tb, t30, hx, hnx, cov_late, h17, hg1, hv] <;> rfl) (by simp only [go_sem] <;> rfl) (by simp only [go_sem] <;> rfl) ?_)
              iterate 2 (refine OpenK.op (by simp only [go_sem, hex, t3, ta, tb, t30, hx, hnx, cov_late, h17, hg1, hv] <;> rfl) (by simp only [go_sem] <;> rfl) (by simp only [go_sem] <;> rfl) ?_)
              refine OpenK.nil (OpenE.finT (by kernel_rfl) (by kernel_rfl) (by kernel_rfl) ?_)
              refine Exec.cnd (by simp only [go_sem, hex, t3, ta, tb, t30, hx, hnx, cov_late, h17, hg1, hv] <;> rfl) (fun hb196 => ?_) (fun hb196 => ?_)
              · skip
                exact absurd hb196 (by simp)
              refine BlkK.nrm ?_
              refine Exec.reg1 ?_
              refine Run.op (by simp only [go_sem] <;> rfl) (by simp only [go_sem] <;> rfl) ?_
              refine Run.op (by simp only [go_sem, hex, t3, ta, tb, t30, hx, hnx, cov_late, h17, hg1, hv]; (try simp (disch := omega) only [IntWalk.i64_in, IntWalk.u64_in, if_neg, if_pos])<;> rfl) (by simp only [go_sem] <;> rfl) ?_
              refine Run.op (by simp only [go_sem] <;> rfl) (by simp only [go_sem] <;> rfl) ?_
              refine Run.nil ?_
              refine ForK.nxt ?_ ?_ ?_
              · omega
              · exact Ghost.kp [9, 10, 14, 16, 17, 19, 21, 99, 100, 101] [16, 19] (by simp only [go_sem, hex, t3, ta, tb, t30, hx, hnx, cov_late, h17, hg1, hv]; first | ((repeat' (first | with_reducible_and_instances rfl | refine st_eq ?_ ?_ ?_ | refine ret_eq ?_ | refine tup_eq ?_ | refine tm_eq ?_ ?_ | refine arr_eq ?_ | refine cells_eq ?_ | refine val_eq ?_ | refine ls_eq ?_ ?_ | refine own_eq ?_ ?_ | refine sl_eq ?_ | refine b_eq ?_ | (refine i_eq ?_; omega))); done) | rfl)
              · trivial
            have hg1 : decide ((b : Int) - 1 + (d : Int) ≥ (b : Int)) = false := by simpa using hbd
            have hv : worksS w ⟨2, (a : Int), (b : Int) - 1 + (d : Int), 0⟩ = false := by
              rw [hall, decide_eq_false_iff_not]; omega
            refine Exec.opk 19 ?_
            iterate 2 (refine OpenK.op (by simp only [go_sem] <;> rfl) (by simp only [go_sem] <;> rfl) (by simp only [go_sem] <;> rfl) ?_)
            refine OpenK.op (by simp only [go_sem, hex, t3, ta, tb, t30, hx, hnx, cov_late, h17, hg1, hv] <;> rfl) (by simp only [go_sem] <;> rfl) (by simp only [go_sem] <;> rfl) ?_
            iterate 2 (refine OpenK.op (by simp only [go_sem] <;> rfl) (by simp only [go_sem] <;> rfl) (by simp only [go_sem] <;> rfl) ?_)
            refine OpenK.calw (by simp only [go_sem] <;> rfl) (c_law_fits w (⟨2, (a : Int), (b : Int) - 1 + (d : Int), 0⟩) h1 h2 hw (by simp only; omega)) (by simp only [go_sem]) (by simp only [go_sem, hex, t3, ta, tb, t30, hx, hnx, cov_late, h17, hg1, hv] <;> rfl) (by simp only [go_sem, hex, t3, ta, tb, t30, hx, hnx, cov_late, h17, hg1, hv] <;> rfl) (by exact ⟨by first | exact WkR.pure rfl | exact WkR.nil _ | exact WkR.int (by first | omega | (simp; done) | (simp; omega)), by first | exact WkR.pure rfl | exact WkR.nil _ | exact WkR.int (by first | omega | (simp; done) | (simp; omega)), trivial⟩) (fr0) (by simp only [go_sem, hex, t3, ta, tb, t30, hx, hnx, cov_late, h17, hg1, hv] <;> rfl) (by simp only [go_sem] <;> rfl) (by simp only [go_sem] <;> rfl) ?_
            iterate 2 (refine OpenK.op (by simp only [go_sem] <;> rfl) (by simp only [go_sem] <;> rfl) (by simp only [go_sem] <;> rfl) ?_)
            iterate 3 (refine OpenK.op (by simp only [go_sem, hex, t3, ta, tb, t30, hx, hnx, cov_late, h17, hg1, hv] <;> rfl) (by simp only [go_sem] <;> rfl) (by simp only [go_sem] <;> rfl) ?_)
            iterate 4 (refine OpenK.skp (by simp only [go_sem] <;> rfl) (by simp only [go_sem] <;> rfl) (by simp only [go_sem] <;> rfl) ?_)
            iterate 2 (refine OpenK.op (by simp only [go_sem, hex, t3, ta, tb, t30, hx, hnx, cov_late, h17, hg1, hv] <;> rfl) (by simp only [go_sem] <;> rfl) (by simp only [go_sem] <;> rfl) ?_)
            refine OpenK.nil (OpenE.finT (by kernel_rfl) (by kernel_rfl) (by kernel_rfl) ?_)
            refine Exec.cnd (by simp only [go_sem, hex, t3, ta, tb, t30, hx, hnx, cov_late, h17, hg1, hv] <;> rfl) (fun hb196 => ?_) (fun hb196 => ?_)
            · skip
              exact absurd hb196 (by simp)
            refine BlkK.nrm ?_
            refine Exec.reg1 ?_
            refine Run.op (by simp only [go_sem] <;> rfl) (by simp only [go_sem] <;> rfl) ?_
            refine Run.op (by simp only [go_sem, hex, t3, ta, tb, t30, hx, hnx, cov_late, h17, hg1, hv]; (try simp (disch := omega) only [IntWalk.i64_in, IntWalk.u64_in, if_neg, if_pos])<;> rfl) (by simp only [go_sem] <;> rfl) ?_
            refine Run.op (by simp only [go_sem] <;> rfl) (by simp only [go_sem] <;> rfl) ?_
            refine Run.nil ?_
            refine ForK.nxt ?_ ?_ ?_
            · omega
            · exact Ghost.kp [9, 10, 14, 16, 17, 19, 21, 99, 100, 101] [16, 19] (by simp only [go_sem, hex, t3, ta, tb, t30, hx, hnx, cov_late, h17, hg1, hv]; first | ((repeat' (first | with_reducible_and_instances rfl | refine st_eq ?_ ?_ ?_ | refine ret_eq ?_ | refine tup_eq ?_ | refine tm_eq ?_ ?_ | refine arr_eq ?_ | refine cells_eq ?_ | refine val_eq ?_ | refine ls_eq ?_ ?_ | refine own_eq ?_ ?_ | refine sl_eq ?_ | refine b_eq ?_ | (refine i_eq ?_; omega))); done) | rfl)
            · trivial
          refine Exec.exitS ?_
          refine ForK.ext ?_
          refine BlkK.hit ?_
          refine Exec.reg1 ?_
          refine Run.op (by simp only [go_sem] <;> rfl) (by simp only [go_sem] <;> rfl) ?_
          refine Run.op (by simp only [go_sem, hex, t3, ta, tb, t30, hx, hnx, cov_late, h17] <;> rfl) (by simp only [go_sem] <;> rfl) ?_
          iterate 26 (refine Run.skp (by simp only [go_sem] <;> rfl) (by simp only [go_sem] <;> rfl) ?_)
          refine Run.op (by simp only [go_sem, hex, t3, ta, tb, t30, hx, hnx, cov_late, h17] <;> rfl) (by simp only [go_sem] <;> rfl) ?_
          refine Run.op (by simp only [go_sem] <;> rfl) (by simp only [go_sem] <;> rfl) ?_
          refine Run.nil ?_
          refine Blk1K.nrm ?_
          refine BlkK.nrm ?_
          refine Exec.reg1 ?_
          refine Run.op (by simp only [go_sem, hex, t3, ta, tb, t30, hx, hnx, cov_late, h17]; (try simp (disch := omega) only [IntWalk.i64_in, IntWalk.u64_in, if_neg, if_pos])<;> rfl) (by simp only [go_sem] <;> rfl) ?_
          refine Run.op (by simp only [go_sem] <;> rfl) (by simp only [go_sem] <;> rfl) ?_
          refine Run.nil ?_
          refine ForK.nxt ?_ ?_ ?_
          · omega
          · exact Ghost.kp [9, 10, 14, 16, 17, 99, 100, 101] [16] (by simp only [go_sem, hex, t3, ta, tb, t30, hx, hnx, cov_late, h17]; first | ((repeat' (first | with_reducible_and_instances rfl | refine st_eq ?_ ?_ ?_ | refine ret_eq ?_ | refine tup_eq ?_ | refine tm_eq ?_ ?_ | refine arr_eq ?_ | refine cells_eq ?_ | refine val_eq ?_ | refine ls_eq ?_ ?_ | refine own_eq ?_ ?_ | refine sl_eq ?_ | refine b_eq ?_ | (refine i_eq ?_; omega))); (all_goals (simp [Bool.and_assoc]))) | rfl)
          · trivial
        have h18 : ((allS w).take k).any (covB o) = false := by simpa using h17
        refine Exec.reg ?_
        refine Run.op (by simp only [go_sem] <;> rfl) (by simp only [go_sem] <;> rfl) ?_
        iterate 3 (refine Run.op (by simp only [go_sem, hex, t3, ta, tb, t30, hx, hnx, cov_late, h18] <;> rfl) (by simp only [go_sem] <;> rfl) ?_)
        refine Run.gop (by simp only [go_sem] <;> rfl) (by simp only [go_sem] <;> rfl) (by simp only [go_sem] <;> rfl) ?_
        refine Run.gop (by simp only [go_sem] <;> rfl) (by simp only [go_sem, hex, t3, ta, tb, t30, hx, hnx, cov_late, h18] <;> rfl) (by simp only [go_sem] <;> rfl) ?_
        refine Run.gop (by simp only [go_sem] <;> rfl) (by simp only [go_sem] <;> rfl) (by simp only [go_sem] <;> rfl) ?_
        iterate 2 (refine Run.gop (by simp only [go_sem] <;> rfl) (by simp only [go_sem, hex, t3, ta, tb, t30, hx, hnx, cov_late, h18] <;> rfl) (by simp only [go_sem] <;> rfl) ?_)
        iterate 2 (refine Run.op (by simp only [go_sem, hex, t3, ta, tb, t30, hx, hnx, cov_late, h18] <;> rfl) (by simp only [go_sem] <;> rfl) ?_)
        refine Run.gop (by simp only [go_sem] <;> rfl) (by simp only [go_sem] <;> rfl) (by simp only [go_sem] <;> rfl) ?_
        iterate 2 (refine Run.gop (by simp only [go_sem] <;> rfl) (by simp only [go_sem, hex, t3, ta, tb, t30, hx, hnx, cov_late, h18] <;> rfl) (by simp only [go_sem] <;> rfl) ?_)
        refine Run.op (by simp only [go_sem, hex, t3, ta, tb, t30, hx, hnx, cov_late, h18] <;> rfl) (by simp only [go_sem] <;> rfl) ?_
        refine Run.nil ?_
        refine Exec.cndS (by simp only [go_sem, hex, t3, ta, tb, t30, hx, hnx, cov_late, h18] <;> rfl) (fun hb169 => ?_) (fun hb169 => ?_)
        · skip
          exfalso
          simp at hb169
          omega
        refine Exec.skipS ?_
        refine Exec.assocS ?_
        by_cases hka : o.kind = 2 ∧ o.a = (a : Int)
        · skip
          have g1 : (o.kind == 2) = true := by simpa using hka.1
          have g2 : (o.a == (a : Int)) = true := by simpa using hka.2
          refine Exec.reg ?_
          refine Run.op (by simp only [go_sem] <;> rfl) (by simp only [go_sem] <;> rfl) ?_
          refine Run.op (by simp only [go_sem, hex, t3, ta, tb, t30, hx, hnx, cov_late, h18, g1, g2] <;> rfl) (by simp only [go_sem] <;> rfl) ?_
          refine Run.op (by simp only [go_sem, hex, t3, ta, tb, t30, hx, hnx, cov_late, h18, g1, g2]; (try simp (disch := omega) only [IntWalk.i64_in, IntWalk.u64_in, if_neg, if_pos])<;> rfl) (by simp only [go_sem] <;> rfl) ?_
          refine Run.op (by simp only [go_sem] <;> rfl) (by simp only [go_sem] <;> rfl) ?_
          refine Run.nil ?_
          refine Exec.blk ?_
          refine Exec.forA [9, 10, 14, 16, 17, 19, 21, 99, 100, 101] [16, 19] (c - b + 3) (fun d => [.slot 21 (.int ((b : Int) - 1 + (d : Int)))]) (fun _ => True) (fun d => by simp only [go_sem] <;> rfl) (by simp only [go_sem, hex, t3, ta, tb, t30, hx, hnx, cov_late, h18, g1, g2, Int.natCast_zero, Int.add_zero] <;> rfl) ?_ (fun d hd Xd => ?_)
          · trivial
          refine Exec.assocS ?_
          refine Exec.reg ?_
          iterate 2 (refine Run.op (by simp only [go_sem] <;> rfl) (by simp only [go_sem] <;> rfl) ?_)
          refine Run.op (by simp only [go_sem, hex, t3, ta, tb, t30, hx, hnx, cov_late, h18, g1, g2] <;> rfl) (by simp only [go_sem] <;> rfl) ?_
          refine Run.op (by simp only [go_sem, hex, t3, ta, tb, t30, hx, hnx, cov_late, h18, g1, g2]; (try simp (disch := omega) only [IntWalk.i64_in, IntWalk.u64_in, if_neg, if_pos])<;> rfl) (by simp only [go_sem] <;> rfl) ?_
          refine Run.op (by simp only [go_sem, hex, t3, ta, tb, t30, hx, hnx, cov_late, h18, g1, g2] <;> rfl) (by simp only [go_sem] <;> rfl) ?_
          refine Run.nil ?_
          refine Exec.cndS (by simp only [go_sem, hex, t3, ta, tb, t30, hx, hnx, cov_late, h18, g1, g2] <;> rfl) (fun hb177 => ?_) (fun hb177 => ?_)
          · skip
            have hd1 : (b : Int) - 1 + (d : Int) ≤ (c : Int) + 1 := of_decide_eq_true hb177
            have hd2 : d < c - b + 3 := by omega
            refine Exec.skipS ?_
            refine Exec.blk ?_
            by_cases hbd : (b : Int) ≤ (b : Int) - 1 + (d : Int)
            · skip
              have hg1 : decide ((b : Int) - 1 + (d : Int) ≥ (b : Int)) = true := by simpa using hbd
              have hv : worksS w ⟨2, (a : Int), (b : Int) - 1 + (d : Int), 0⟩ = decide ((b : Int) - 1 + (d : Int) ≤ (c : Int)) := by
                rw [hall, Bool.eq_iff_iff]; simp; omega
              refine Exec.opk 19 ?_
              iterate 2 (refine OpenK.op (by simp only [go_sem] <;> rfl) (by simp only [go_sem] <;> rfl) (by simp only [go_sem] <;> rfl) ?_)
              refine OpenK.op (by simp only [go_sem, hex, t3, ta, tb, t30, hx, hnx, cov_late, h18, g1, g2, hg1, hv] <;> rfl) (by simp only [go_sem] <;> rfl) (by simp only [go_sem] <;> rfl) ?_
              iterate 2 (refine OpenK.op (by simp only [go_sem] <;> rfl) (by simp only [go_sem] <;> rfl) (by simp only [go_sem] <;> rfl) ?_)
              refine OpenK.calw (by simp only [go_sem] <;> rfl) (c_law_fits w (⟨2, (a : Int), (b : Int) - 1 + (d : Int), 0⟩) h1 h2 hw (by simp only; omega)) (by simp only [go_sem]) (by simp only [go_sem, hex, t3, ta, tb, t30, hx, hnx, cov_late, h18, g1, g2, hg1, hv] <;> rfl) (by simp only [go_sem, hex, t3, ta, tb, t30, hx, hnx, cov_late, h18, g1, g2, hg1, hv] <;> rfl) (by exact ⟨by first | exact WkR.pure rfl | exact WkR.nil _ | exact WkR.int (by first | omega | (simp; done) | (simp; omega)), by first | exact WkR.pure rfl | exact WkR.nil _ | exact WkR.int (by first | omega | (simp; done) | (simp; omega)), trivial⟩) (fr0) (by simp only [go_sem, hex, t3, ta, tb, t30, hx, hnx, cov_late, h18, g1, g2, hg1, hv] <;> rfl) (by simp only [go_sem] <;> rfl) (by simp only [go_sem] <;> rfl) ?_
              iterate 2 (refine OpenK.op (by simp only [go_sem] <;> rfl) (by simp only [go_sem] <;> rfl) (by simp only [go_sem] <;> rfl) ?_)
              iterate 3 (refine OpenK.op (by simp only [go_sem, hex, t3, ta, tb, t30, hx, hnx, cov_late, h18, g1, g2, hg1, hv] <;> rfl) (by simp only [go_sem] <;> rfl) (by simp only [go_sem] <;> rfl) ?_)
              iterate 2 (refine OpenK.yes (by simp only [go_sem] <;> rfl) (by simp only [go_sem] <;> rfl) (by simp only [go_sem] <;> rfl) (by simp only [go_sem] <;> rfl) ?_)
              iterate 2 (refine OpenK.yes (by simp only [go_sem] <;> rfl) (by simp only [go_sem, hex, t3, ta, tb, t30, hx, hnx, cov_late, h18, g1, g2, hg1, hv] <;> rfl) (by simp only [go_sem] <;> rfl) (by simp only [go_sem] <;> rfl) ?_)
              iterate 2 (refine OpenK.op (by simp only [go_sem, hex, t3, ta, tb, t30, hx, hnx, cov_late, h18, g1, g2, hg1, hv] <;> rfl) (by simp only [go_sem] <;> rfl) (by simp only [go_sem] <;> rfl) ?_)
              refine OpenK.nil (OpenE.finT (by kernel_rfl) (by kernel_rfl) (by kernel_rfl) ?_)
              refine Exec.cnd (by simp only [go_sem, hex, t3, ta, tb, t30, hx, hnx, cov_late, h18, g1, g2, hg1, hv] <;> rfl) (fun hb196 => ?_) (fun hb196 => ?_)
              · skip
                exact absurd hb196 (by simp)
              refine BlkK.nrm ?_
              refine Exec.reg1 ?_
              refine Run.op (by simp only [go_sem] <;> rfl) (by simp only [go_sem] <;> rfl) ?_
              refine Run.op (by simp only [go_sem, hex, t3, ta, tb, t30, hx, hnx, cov_late, h18, g1, g2, hg1, hv]; (try simp (disch := omega) only [IntWalk.i64_in, IntWalk.u64_in, if_neg, if_pos])<;> rfl) (by simp only [go_sem] <;> rfl) ?_
              refine Run.op (by simp only [go_sem] <;> rfl) (by simp only [go_sem] <;> rfl) ?_
              refine Run.nil ?_
              refine ForK.nxt ?_ ?_ ?_
              · omega
              · exact Ghost.kp [9, 10, 14, 16, 17, 19, 21, 99, 100, 101] [16, 19] (by simp only [go_sem, hex, t3, ta, tb, t30, hx, hnx, cov_late, h18, g1, g2, hg1, hv]; first | ((repeat' (first | with_reducible_and_instances rfl | refine st_eq ?_ ?_ ?_ | refine ret_eq ?_ | refine tup_eq ?_ | refine tm_eq ?_ ?_ | refine arr_eq ?_ | refine cells_eq ?_ | refine val_eq ?_ | refine ls_eq ?_ ?_ | refine own_eq ?_ ?_ | refine sl_eq ?_ | refine b_eq ?_ | (refine i_eq ?_; omega))); done) | rfl)
              · trivial
            have hg1 : decide ((b : Int) - 1 + (d : Int) ≥ (b : Int)) = false := by simpa using hbd
            have hv : worksS w ⟨2, (a : Int), (b : Int) - 1 + (d : Int), 0⟩ = false := by
              rw [hall, decide_eq_false_iff_not]; omega
            refine Exec.opk 19 ?_
            iterate 2 (refine OpenK.op (by simp only [go_sem] <;> rfl) (by simp only [go_sem] <;> rfl) (by simp only [go_sem] <;> rfl) ?_)
            refine OpenK.op (by simp only [go_sem, hex, t3, ta, tb, t30, hx, hnx, cov_late, h18, g1, g2, hg1, hv] <;> rfl) (by simp only [go_sem] <;> rfl) (by simp only [go_sem] <;> rfl) ?_
            iterate 2 (refine OpenK.op (by simp only [go_sem] <;> rfl) (by simp only [go_sem] <;> rfl) (by simp only [go_sem] <;> rfl) ?_)
            refine OpenK.calw (by simp only [go_sem] <;> rfl) (c_law_fits w (⟨2, (a : Int), (b : Int) - 1 + (d : Int), 0⟩) h1 h2 hw (by simp only; omega)) (by simp only [go_sem]) (by simp only [go_sem, hex, t3, ta, tb, t30, hx, hnx, cov_late, h18, g1, g2, hg1, hv] <;> rfl) (by simp only [go_sem, hex, t3, ta, tb, t30, hx, hnx, cov_late, h18, g1, g2, hg1, hv] <;> rfl) (by exact ⟨by first | exact WkR.pure rfl | exact WkR.nil _ | exact WkR.int (by first | omega | (simp; done) | (simp; omega)), by first | exact WkR.pure rfl | exact WkR.nil _ | exact WkR.int (by first | omega | (simp; done) | (simp; omega)), trivial⟩) (fr0) (by simp only [go_sem, hex, t3, ta, tb, t30, hx, hnx, cov_late, h18, g1, g2, hg1, hv] <;> rfl) (by simp only [go_sem] <;> rfl) (by simp only [go_sem] <;> rfl) ?_
            iterate 2 (refine OpenK.op (by simp only [go_sem] <;> rfl) (by simp only [go_sem] <;> rfl) (by simp only [go_sem] <;> rfl) ?_)
            iterate 3 (refine OpenK.op (by simp only [go_sem, hex, t3, ta, tb, t30, hx, hnx, cov_late, h18, g1, g2, hg1, hv] <;> rfl) (by simp only [go_sem] <;> rfl) (by simp only [go_sem] <;> rfl) ?_)
            iterate 4 (refine OpenK.skp (by simp only [go_sem] <;> rfl) (by simp only [go_sem] <;> rfl) (by simp only [go_sem] <;> rfl) ?_)
            iterate 2 (refine OpenK.op (by simp only [go_sem, hex, t3, ta, tb, t30, hx, hnx, cov_late, h18, g1, g2, hg1, hv] <;> rfl) (by simp only [go_sem] <;> rfl) (by simp only [go_sem] <;> rfl) ?_)
            refine OpenK.nil (OpenE.finT (by kernel_rfl) (by kernel_rfl) (by kernel_rfl) ?_)
            refine Exec.cnd (by simp only [go_sem, hex, t3, ta, tb, t30, hx, hnx, cov_late, h18, g1, g2, hg1, hv] <;> rfl) (fun hb196 => ?_) (fun hb196 => ?_)
            · skip
              exact absurd hb196 (by simp)
            refine BlkK.nrm ?_
            refine Exec.reg1 ?_
            refine Run.op (by simp only [go_sem] <;> rfl) (by simp only [go_sem] <;> rfl) ?_
            refine Run.op (by simp only [go_sem, hex, t3, ta, tb, t30, hx, hnx, cov_late, h18, g1, g2, hg1, hv]; (try simp (disch := omega) only [IntWalk.i64_in, IntWalk.u64_in, if_neg, if_pos])<;> rfl) (by simp only [go_sem] <;> rfl) ?_
            refine Run.op (by simp only [go_sem] <;> rfl) (by simp only [go_sem] <;> rfl) ?_
            refine Run.nil ?_
            refine ForK.nxt ?_ ?_ ?_
            · omega
            · exact Ghost.kp [9, 10, 14, 16, 17, 19, 21, 99, 100, 101] [16, 19] (by simp only [go_sem, hex, t3, ta, tb, t30, hx, hnx, cov_late, h18, g1, g2, hg1, hv]; first | ((repeat' (first | with_reducible_and_instances rfl | refine st_eq ?_ ?_ ?_ | refine ret_eq ?_ | refine tup_eq ?_ | refine tm_eq ?_ ?_ | refine arr_eq ?_ | refine cells_eq ?_ | refine val_eq ?_ | refine ls_eq ?_ ?_ | refine own_eq ?_ ?_ | refine sl_eq ?_ | refine b_eq ?_ | (refine i_eq ?_; omega))); done) | rfl)
            · trivial
          refine Exec.exitS ?_
          refine ForK.ext ?_
          refine BlkK.hit ?_
          by_cases hbo : o.b ≥ (b : Int)
          · skip
            have g3 : decide (o.b ≥ (b : Int)) = true := by simpa using hbo
            refine Exec.reg1 ?_
            refine Run.op (by simp only [go_sem] <;> rfl) (by simp only [go_sem] <;> rfl) ?_
            refine Run.op (by simp only [go_sem, hex, t3, ta, tb, t30, hx, hnx, cov_late, h18, g1, g2, g3] <;> rfl) (by simp only [go_sem] <;> rfl) ?_
            refine Run.yes (by simp only [go_sem] <;> rfl) (by simp only [go_sem] <;> rfl) (by simp only [go_sem] <;> rfl) ?_
            refine Run.yes (by simp only [go_sem] <;> rfl) (by simp only [go_sem, hex, t3, ta, tb, t30, hx, hnx, cov_late, h18, g1, g2, g3] <;> rfl) (by simp only [go_sem] <;> rfl) ?_
            refine Run.yes (by simp only [go_sem] <;> rfl) (by simp only [go_sem] <;> rfl) (by simp only [go_sem] <;> rfl) ?_
            iterate 3 (refine Run.yes (by simp only [go_sem] <;> rfl) (by simp only [go_sem, hex, t3, ta, tb, t30, hx, hnx, cov_late, h18, g1, g2, g3] <;> rfl) (by simp only [go_sem] <;> rfl) ?_)
            refine Run.yes (by simp only [go_sem] <;> rfl) (by simp only [go_sem] <;> rfl) (by simp only [go_sem] <;> rfl) ?_
            refine Run.yes (by simp only [go_sem] <;> rfl) (by simp only [go_sem, hex, t3, ta, tb, t30, hx, hnx, cov_late, h18, g1, g2, g3] <;> rfl) (by simp only [go_sem] <;> rfl) ?_
            refine Run.yes (by simp only [go_sem] <;> rfl) (by simp only [go_sem] <;> rfl) (by simp only [go_sem] <;> rfl) ?_
            iterate 4 (refine Run.yes (by simp only [go_sem] <;> rfl) (by simp only [go_sem, hex, t3, ta, tb, t30, hx, hnx, cov_late, h18, g1, g2, g3] <;> rfl) (by simp only [go_sem] <;> rfl) ?_)
            refine Run.yes (by simp only [go_sem] <;> rfl) (by simp only [go_sem] <;> rfl) (by simp only [go_sem] <;> rfl) ?_
            refine Run.yes (by simp only [go_sem] <;> rfl) (by simp only [go_sem, hex, t3, ta, tb, t30, hx, hnx, cov_late, h18, g1, g2, g3] <;> rfl) (by simp only [go_sem] <;> rfl) ?_
            refine Run.yes (by simp only [go_sem] <;> rfl) (by simp only [go_sem] <;> rfl) (by simp only [go_sem] <;> rfl) ?_
            iterate 4 (refine Run.yes (by simp only [go_sem] <;> rfl) (by simp only [go_sem, hex, t3, ta, tb, t30, hx, hnx, cov_late, h18, g1, g2, g3] <;> rfl) (by simp only [go_sem] <;> rfl) ?_)
            refine Run.yes (by simp only [go_sem] <;> rfl) (by simp only [go_sem] <;> rfl) (by simp only [go_sem] <;> rfl) ?_
            refine Run.yes (by simp only [go_sem] <;> rfl) (by simp only [go_sem, hex, t3, ta, tb, t30, hx, hnx, cov_late, h18, g1, g2, g3] <;> rfl) (by simp only [go_sem] <;> rfl) ?_
            refine Run.yes (by simp only [go_sem] <;> rfl) (by simp only [go_sem] <;> rfl) (by simp only [go_sem] <;> rfl) ?_
            iterate 3 (refine Run.yes (by simp only [go_sem] <;> rfl) (by simp only [go_sem, hex, t3, ta, tb, t30, hx, hnx, cov_late, h18, g1, g2, g3] <;> rfl) (by simp only [go_sem] <;> rfl) ?_)
            refine Run.op (by simp only [go_sem, hex, t3, ta, tb, t30, hx, hnx, cov_late, h18, g1, g2, g3] <;> rfl) (by simp only [go_sem] <;> rfl) ?_
            refine Run.op (by simp only [go_sem] <;> rfl) (by simp only [go_sem] <;> rfl) ?_
            refine Run.nil ?_
            refine Blk1K.nrm ?_
            refine BlkK.nrm ?_
            refine Exec.reg1 ?_
            refine Run.op (by simp only [go_sem, hex, t3, ta, tb, t30, hx, hnx, cov_late, h18, g1, g2, g3]; (try simp (disch := omega) only [IntWalk.i64_in, IntWalk.u64_in, if_neg, if_pos])<;> rfl) (by simp only [go_sem] <;> rfl) ?_
            refine Run.op (by simp only [go_sem] <;> rfl) (by simp only [go_sem] <;> rfl) ?_
            refine Run.nil ?_
            refine ForK.nxt ?_ ?_ ?_
            · omega
            · exact Ghost.kp [9, 10, 14, 16, 17, 99, 100, 101] [16] (by simp only [go_sem, hex, t3, ta, tb, t30, hx, hnx, cov_late, h18, g1, g2, g3]; first | ((repeat' (first | with_reducible_and_instances rfl | refine st_eq ?_ ?_ ?_ | refine ret_eq ?_ | refine tup_eq ?_ | refine tm_eq ?_ ?_ | refine arr_eq ?_ | refine cells_eq ?_ | refine val_eq ?_ | refine ls_eq ?_ ?_ | refine own_eq ?_ ?_ | refine sl_eq ?_ | refine b_eq ?_ | (refine i_eq ?_; omega))); (all_goals (simp [Bool.and_assoc]))) | rfl)
            · trivial
          have g3 : decide (o.b ≥ (b : Int)) = false := by simpa using hbo
          refine Exec.reg1 ?_
          refine Run.op (by simp only [go_sem] <;> rfl) (by simp only [go_sem] <;> rfl) ?_
          refine Run.op (by simp only [go_sem, hex, t3, ta, tb, t30, hx, hnx, cov_late, h18, g1, g2, g3] <;> rfl) (by simp only [go_sem] <;> rfl) ?_
          refine Run.yes (by simp only [go_sem] <;> rfl) (by simp only [go_sem] <;> rfl) (by simp only [go_sem] <;> rfl) ?_
          refine Run.yes (by simp only [go_sem] <;> rfl) (by simp only [go_sem, hex, t3, ta, tb, t30, hx, hnx, cov_late, h18, g1, g2, g3] <;> rfl) (by simp only [go_sem] <;> rfl) ?_
          refine Run.yes (by simp only [go_sem] <;> rfl) (by simp only [go_sem] <;> rfl) (by simp only [go_sem] <;> rfl) ?_
          iterate 3 (refine Run.yes (by simp only [go_sem] <;> rfl) (by simp only [go_sem, hex, t3, ta, tb, t30, hx, hnx, cov_late, h18, g1, g2, g3] <;> rfl) (by simp only [go_sem] <;> rfl) ?_)
          refine Run.yes (by simp only [go_sem] <;> rfl) (by simp only [go_sem] <;> rfl) (by simp only [go_sem] <;> rfl) ?_
          refine Run.yes (by simp only [go_sem] <;> rfl) (by simp only [go_sem, hex, t3, ta, tb, t30, hx, hnx, cov_late, h18, g1, g2, g3] <;> rfl) (by simp only [go_sem] <;> rfl) ?_
          refine Run.yes (by simp only [go_sem] <;> rfl) (by simp only [go_sem] <;> rfl) (by simp only [go_sem] <;> rfl) ?_
          iterate 4 (refine Run.yes (by simp only [go_sem] <;> rfl) (by simp only [go_sem, hex, t3, ta, tb, t30, hx, hnx, cov_late, h18, g1, g2, g3] <;> rfl) (by simp only [go_sem] <;> rfl) ?_)
          refine Run.yes (by simp only [go_sem] <;> rfl) (by simp only [go_sem] <;> rfl) (by simp only [go_sem] <;> rfl) ?_
          refine Run.yes (by simp only [go_sem] <;> rfl) (by simp only [go_sem, hex, t3, ta, tb, t30, hx, hnx, cov_late, h18, g1, g2, g3] <;> rfl) (by simp only [go_sem] <;> rfl) ?_
          refine Run.yes (by simp only [go_sem] <;> rfl) (by simp only [go_sem] <;> rfl) (by simp only [go_sem] <;> rfl) ?_
          iterate 4 (refine Run.yes (by simp only [go_sem] <;> rfl) (by simp only [go_sem, hex, t3, ta, tb, t30, hx, hnx, cov_late, h18, g1, g2, g3] <;> rfl) (by simp only [go_sem] <;> rfl) ?_)
          iterate 5 (refine Run.skp (by simp only [go_sem] <;> rfl) (by simp only [go_sem] <;> rfl) ?_)
          refine Run.yes (by simp only [go_sem] <;> rfl) (by simp only [go_sem, hex, t3, ta, tb, t30, hx, hnx, cov_late, h18, g1, g2, g3] <;> rfl) (by simp only [go_sem] <;> rfl) ?_
          refine Run.op (by simp only [go_sem, hex, t3, ta, tb, t30, hx, hnx, cov_late, h18, g1, g2, g3] <;> rfl) (by simp only [go_sem] <;> rfl) ?_
          refine Run.op (by simp only [go_sem] <;> rfl) (by simp only [go_sem] <;> rfl) ?_
          refine Run.nil ?_
          refine Blk1K.nrm ?_
          refine BlkK.nrm ?_
          refine Exec.reg1 ?_
          refine Run.op (by simp only [go_sem, hex, t3, ta, tb, t30, hx, hnx, cov_late, h18, g1, g2, g3]; (try simp (disch := omega) only [IntWalk.i64_in, IntWalk.u64_in, if_neg, if_pos])<;> rfl) (by simp only [go_sem] <;> rfl) ?_
          refine Run.op (by simp only [go_sem] <;> rfl) (by simp only [go_sem] <;> rfl) ?_
          refine Run.nil ?_
          refine ForK.nxt ?_ ?_ ?_
          · omega
          · exact Ghost.kp [9, 10, 14, 16, 17, 99, 100, 101] [16] (by simp only [go_sem, hex, t3, ta, tb, t30, hx, hnx, cov_late, h18, g1, g2, g3]; first | ((repeat' (first | with_reducible_and_instances rfl | refine st_eq ?_ ?_ ?_ | refine ret_eq ?_ | refine tup_eq ?_ | refine tm_eq ?_ ?_ | refine arr_eq ?_ | refine cells_eq ?_ | refine val_eq ?_ | refine ls_eq ?_ ?_ | refine own_eq ?_ ?_ | refine sl_eq ?_ | refine b_eq ?_ | (refine i_eq ?_; omega))); (all_goals (simp [Bool.and_assoc]))) | rfl)
          · trivial
        skip
        refine Exec.reg ?_
        refine Run.op (by simp only [go_sem] <;> rfl) (by simp only [go_sem] <;> rfl) ?_
        refine Run.op (by simp only [go_sem, hex, t3, ta, tb, t30, hx, hnx, cov_late, h18] <;> rfl) (by simp only [go_sem] <;> rfl) ?_
        refine Run.op (by simp only [go_sem, hex, t3, ta, tb, t30, hx, hnx, cov_late, h18]; (try simp (disch := omega) only [IntWalk.i64_in, IntWalk.u64_in, if_neg, if_pos])<;> rfl) (by simp only [go_sem] <;> rfl) ?_
        refine Run.op (by simp only [go_sem] <;> rfl) (by simp only [go_sem] <;> rfl) ?_
        refine Run.nil ?_
        refine Exec.blk ?_
        refine Exec.forA [9, 10, 14, 16, 17, 19, 21, 99, 100, 101] [16, 19] (c - b + 3) (fun d => [.slot 21 (.int ((b : Int) - 1 + (d : Int)))]) (fun _ => True) (fun d => by simp only [go_sem] <;> rfl) (by simp only [go_sem, hex, t3, ta, tb, t30, hx, hnx, cov_late, h18, Int.natCast_zero, Int.add_zero] <;> rfl) ?_ (fun d hd Xd => ?_)
        · trivial
        refine Exec.assocS ?_
        refine Exec.reg ?_
        iterate 2 (refine Run.op (by simp only [go_sem] <;> rfl) (by simp only [go_sem] <;> rfl) ?_)
        refine Run.op (by simp only [go_sem, hex, t3, ta, tb, t30, hx, hnx, cov_late, h18] <;> rfl) (by simp only [go_sem] <;> rfl) ?_
        refine Run.op (by simp only [go_sem, hex, t3, ta, tb, t30, hx, hnx, cov_late, h18]; (try simp (disch := omega) only [IntWalk.i64_in, IntWalk.u64_in, if_neg, if_pos])<;> rfl) (by simp only [go_sem] <;> rfl) ?_
        refine Run.op (by simp only [go_sem, hex, t3, ta, tb, t30, hx, hnx, cov_late, h18] <;> rfl) (by simp only [go_sem] <;> rfl) ?_
        refine Run.nil ?_
        refine Exec.cndS (by simp only [go_sem, hex, t3, ta, tb, t30, hx, hnx, cov_late, h18] <;> rfl) (fun hb177 => ?_) (fun hb177 => ?_)
        · skip
          have hd1 : (b : Int) - 1 + (d : Int) ≤ (c : Int) + 1 := of_decide_eq_true hb177
          have hd2 : d < c - b + 3 := by omega
          refine Exec.skipS ?_
          refine Exec.blk ?_
          by_cases hbd : (b : Int) ≤ (b : Int) - 1 + (d : Int)
          · skip
            have hg1 : decide ((b : Int) - 1 + (d : Int) ≥ (b : Int)) = true := by simpa using hbd
            have hv : worksS w ⟨2, (a : Int), (b : Int) - 1 + (d : Int), 0⟩ = decide ((b : Int) - 1 + (d : Int) ≤ (c : Int)) := by
              rw [hall, Bool.eq_iff_iff]; simp; omega
            refine Exec.opk 19 ?_
            iterate 2 (refine OpenK.op (by simp only [go_sem] <;> rfl) (by simp only [go_sem] <;> rfl) (by simp only [go_sem] <;> rfl) ?_)
            refine OpenK.op (by simp only [go_sem, hex, t3, ta, tb, t30, hx, hnx, cov_late, h18, hg1, hv] <;> rfl) (by simp only [go_sem] <;> rfl) (by simp only [go_sem] <;> rfl) ?_
            iterate 2 (refine OpenK.op (by simp only [go_sem] <;> rfl) (by simp only [go_sem] <;> rfl) (by simp only [go_sem] <;> rfl) ?_)
            refine OpenK.calw (by simp only [go_sem] <;> rfl) (c_law_fits w (⟨2, (a : Int), (b : Int) - 1 + (d : Int), 0⟩) h1 h2 hw (by simp only; omega)) (by simp only [go_sem]) (by simp only [go_sem, hex, t3, ta, tb, t30, hx, hnx, cov_late, h18, hg1, hv] <;> rfl) (by simp only [go_sem, hex, t3, ta, tb, t30, hx, hnx, cov_late, h18, hg1, hv] <;> rfl) (by exact ⟨by first | exact WkR.pure rfl | exact WkR.nil _ | exact WkR.int (by first | omega | (simp; done) | (simp; omega)), by first | exact WkR.pure rfl | exact WkR.nil _ | exact WkR.int (by first | omega | (simp; done) | (simp; omega)), trivial⟩) (fr0) (by simp only [go_sem, hex, t3, ta, tb, t30, hx, hnx, cov_late, h18, hg1, hv] <;> rfl) (by simp only [go_sem] <;> rfl) (by simp only [go_sem] <;> rfl) ?_
            iterate 2 (refine OpenK.op (by simp only [go_sem] <;> rfl) (by simp only [go_sem] <;> rfl) (by simp only [go_sem] <;> rfl) ?_)
            iterate 3 (refine OpenK.op (by simp only [go_sem, hex, t3, ta, tb, t30, hx, hnx, cov_late, h18, hg1, hv] <;> rfl) (by simp only [go_sem] <;> rfl) (by simp only [go_sem] <;> rfl) ?_)
            iterate 2 (refine OpenK.yes (by simp only [go_sem] <;> rfl) (by simp only [go_sem] <;> rfl) (by simp only [go_sem] <;> rfl) (by simp only [go_sem] <;> rfl) ?_)
            iterate 2 (refine OpenK.yes (by simp only [go_sem] <;> rfl) (by simp only [go_sem, hex, t3, ta, tb, t30, hx, hnx, cov_late, h18, hg1, hv] <;> rfl) (by simp only [go_sem] <;> rfl) (by simp only [go_sem] <;> rfl) ?_)
            iterate 2 (refine OpenK.op (by simp only [go_sem, hex, t3, ta, tb, t30, hx, hnx, cov_late, h18, hg1, hv] <;> rfl) (by simp only [go_sem] <;> rfl) (by simp only [go_sem] <;> rfl) ?_)
            refine OpenK.nil (OpenE.finT (by kernel_rfl) (by kernel_rfl) (by kernel_rfl) ?_)
            refine Exec.cnd (by simp only [go_sem, hex, t3, ta, tb, t30, hx, hnx, cov_late, h18, hg1, hv] <;> rfl) (fun hb196 => ?_) (fun hb196 => ?_)
            · skip
              exact absurd hb196 (by simp)
            refine BlkK.nrm ?_
            refine Exec.reg1 ?_
            refine Run.op (by simp only [go_sem] <;> rfl) (by simp only [go_sem] <;> rfl) ?_
            refine Run.op (by simp only [go_sem, hex, t3, ta, tb, t30, hx, hnx, cov_late, h18, hg1, hv]; (try simp (disch := omega) only [IntWalk.i64_in, IntWalk.u64_in, if_neg, if_pos])<;> rfl) (by simp only [go_sem] <;> rfl) ?_
            refine Run.op (by simp only [go_sem] <;> rfl) (by simp only [go_sem] <;> rfl) ?_
            refine Run.nil ?_
            refine ForK.nxt ?_ ?_ ?_
            · omega
            · exact Ghost.kp [9, 10, 14, 16, 17, 19, 21, 99, 100, 101] [16, 19] (by simp only [go_sem, hex, t3, ta, tb, t30, hx, hnx, cov_late, h18, hg1, hv]; first | ((repeat' (first | with_reducible_and_instances rfl | refine st_eq ?_ ?_ ?_ | refine ret_eq ?_ | refine tup_eq ?_ | refine tm_eq ?_ ?_ | refine arr_eq ?_ | refine cells_eq ?_ | refine val_eq ?_ | refine ls_eq ?_ ?_ | refine own_eq ?_ ?_ | refine sl_eq ?_ | refine b_eq ?_ | (refine i_eq ?_; omega))); done) | rfl)
            · trivial
          have hg1 : decide ((b : Int) - 1 + (d : Int) ≥ (b : Int)) = false := by simpa using hbd
          have hv : worksS w ⟨2, (a : Int), (b : Int) - 1 + (d : Int), 0⟩ = false := by
            rw [hall, decide_eq_false_iff_not]; omega
          refine Exec.opk 19 ?_
          iterate 2 (refine OpenK.op (by simp only [go_sem] <;> rfl) (by simp only [go_sem] <;> rfl) (by simp only [go_sem] <;> rfl) ?_)
          refine OpenK.op (by simp only [go_sem, hex, t3, ta, tb, t30, hx, hnx, cov_late, h18, hg1, hv] <;> rfl) (by simp only [go_sem] <;> rfl) (by simp only [go_sem] <;> rfl) ?_
          iterate 2 (refine OpenK.op (by simp only [go_sem] <;> rfl) (by simp only [go_sem] <;> rfl) (by simp only [go_sem] <;> rfl) ?_)
          refine OpenK.calw (by simp only [go_sem] <;> rfl) (c_law_fits w (⟨2, (a : Int), (b : Int) - 1 + (d : Int), 0⟩) h1 h2 hw (by simp only; omega)) (by simp only [go_sem]) (by simp only [go_sem, hex, t3, ta, tb, t30, hx, hnx, cov_late, h18, hg1, hv] <;> rfl) (by simp only [go_sem, hex, t3, ta, tb, t30, hx, hnx, cov_late, h18, hg1, hv] <;> rfl) (by exact ⟨by first | exact WkR.pure rfl | exact WkR.nil _ | exact WkR.int (by first | omega | (simp; done) | (simp; omega)), by first | exact WkR.pure rfl | exact WkR.nil _ | exact WkR.int (by first | omega | (simp; done) | (simp; omega)), trivial⟩) (fr0) (by simp only [go_sem, hex, t3, ta, tb, t30, hx, hnx, cov_late, h18, hg1, hv] <;> rfl) (by simp only [go_sem] <;> rfl) (by simp only [go_sem] <;> rfl) ?_
          iterate 2 (refine OpenK.op (by simp only [go_sem] <;> rfl) (by simp only [go_sem] <;> rfl) (by simp only [go_sem] <;> rfl) ?_)
          iterate 3 (refine OpenK.op (by simp only [go_sem, hex, t3, ta, tb, t30, hx, hnx, cov_late, h18, hg1, hv] <;> rfl) (by simp only [go_sem] <;> rfl) (by simp only [go_sem] <;> rfl) ?_)
          iterate 4 (refine OpenK.skp (by simp only [go_sem] <;> rfl) (by simp only [go_sem] <;> rfl) (by simp only [go_sem] <;> rfl) ?_)
          iterate 2 (refine OpenK.op (by simp only [go_sem, hex, t3, ta, tb, t30, hx, hnx, cov_late, h18, hg1, hv] <;> rfl) (by simp only [go_sem] <;> rfl) (by simp only [go_sem] <;> rfl) ?_)
          refine OpenK.nil (OpenE.finT (by kernel_rfl) (by kernel_rfl) (by kernel_rfl) ?_)
          refine Exec.cnd (by simp only [go_sem, hex, t3, ta, tb, t30, hx, hnx, cov_late, h18, hg1, hv] <;> rfl) (fun hb196 => ?_) (fun hb196 => ?_)
          · skip
            exact absurd hb196 (by simp)
          refine BlkK.nrm ?_
          refine Exec.reg1 ?_
          refine Run.op (by simp only [go_sem] <;> rfl) (by simp only [go_sem] <;> rfl) ?_
          refine Run.op (by simp only [go_sem, hex, t3, ta, tb, t30, hx, hnx, cov_late, h18, hg1, hv]; (try simp (disch := omega) only [IntWalk.i64_in, IntWalk.u64_in, if_neg, if_pos])<;> rfl) (by simp only [go_sem] <;> rfl) ?_
          refine Run.op (by simp only [go_sem] <;> rfl) (by simp only [go_sem] <;> rfl) ?_
          refine Run.nil ?_
          refine ForK.nxt ?_ ?_ ?_
          · omega
          · exact Ghost.kp [9, 10, 14, 16, 17, 19, 21, 99, 100, 101] [16, 19] (by simp only [go_sem, hex, t3, ta, tb, t30, hx, hnx, cov_late, h18, hg1, hv]; first | ((repeat' (first | with_reducible_and_instances rfl | refine st_eq ?_ ?_ ?_ | refine ret_eq ?_ | refine tup_eq ?_ | refine tm_eq ?_ ?_ | refine arr_eq ?_ | refine cells_eq ?_ | refine val_eq ?_ | refine ls_eq ?_ ?_ | refine own_eq ?_ ?_ | refine sl_eq ?_ | refine b_eq ?_ | (refine i_eq ?_; omega))); done) | rfl)
          · trivial
        refine Exec.exitS ?_
        refine ForK.ext ?_
        refine BlkK.hit ?_
        by_cases hk4 : o.kind = 2
        · skip
          have g1 : (o.kind == 2) = true := by simpa using hk4
          have g2 : (o.a == (a : Int)) = false := by simp; exact fun h => hka ⟨hk4, h⟩
          refine Exec.reg1 ?_
          refine Run.op (by simp only [go_sem] <;> rfl) (by simp only [go_sem] <;> rfl) ?_
          refine Run.op (by simp only [go_sem, hex, t3, ta, tb, t30, hx, hnx, cov_late, h18, g1, g2] <;> rfl) (by simp only [go_sem] <;> rfl) ?_
          refine Run.yes (by simp only [go_sem] <;> rfl) (by simp only [go_sem] <;> rfl) (by simp only [go_sem] <;> rfl) ?_
          refine Run.yes (by simp only [go_sem] <;> rfl) (by simp only [go_sem, hex, t3, ta, tb, t30, hx, hnx, cov_late, h18, g1, g2] <;> rfl) (by simp only [go_sem] <;> rfl) ?_
          refine Run.yes (by simp only [go_sem] <;> rfl) (by simp only [go_sem] <;> rfl) (by simp only [go_sem] <;> rfl) ?_
          iterate 3 (refine Run.yes (by simp only [go_sem] <;> rfl) (by simp only [go_sem, hex, t3, ta, tb, t30, hx, hnx, cov_late, h18, g1, g2] <;> rfl) (by simp only [go_sem] <;> rfl) ?_)
          refine Run.yes (by simp only [go_sem] <;> rfl) (by simp only [go_sem] <;> rfl) (by simp only [go_sem] <;> rfl) ?_
          refine Run.yes (by simp only [go_sem] <;> rfl) (by simp only [go_sem, hex, t3, ta, tb, t30, hx, hnx, cov_late, h18, g1, g2] <;> rfl) (by simp only [go_sem] <;> rfl) ?_
          refine Run.yes (by simp only [go_sem] <;> rfl) (by simp only [go_sem] <;> rfl) (by simp only [go_sem] <;> rfl) ?_
          iterate 4 (refine Run.yes (by simp only [go_sem] <;> rfl) (by simp only [go_sem, hex, t3, ta, tb, t30, hx, hnx, cov_late, h18, g1, g2] <;> rfl) (by simp only [go_sem] <;> rfl) ?_)
          iterate 5 (refine Run.skp (by simp only [go_sem] <;> rfl) (by simp only [go_sem] <;> rfl) ?_)
          iterate 2 (refine Run.yes (by simp only [go_sem] <;> rfl) (by simp only [go_sem, hex, t3, ta, tb, t30, hx, hnx, cov_late, h18, g1, g2] <;> rfl) (by simp only [go_sem] <;> rfl) ?_)
          iterate 5 (refine Run.skp (by simp only [go_sem] <;> rfl) (by simp only [go_sem] <;> rfl) ?_)
          refine Run.yes (by simp only [go_sem] <;> rfl) (by simp only [go_sem, hex, t3, ta, tb, t30, hx, hnx, cov_late, h18, g1, g2] <;> rfl) (by simp only [go_sem] <;> rfl) ?_
          refine Run.op (by simp only [go_sem, hex, t3, ta, tb, t30, hx, hnx, cov_late, h18, g1, g2] <;> rfl) (by simp only [go_sem] <;> rfl) ?_
          refine Run.op (by simp only [go_sem] <;> rfl) (by simp only [go_sem] <;> rfl) ?_
          refine Run.nil ?_
          refine Blk1K.nrm ?_
          refine BlkK.nrm ?_
          refine Exec.reg1 ?_
          refine Run.op (by simp only [go_sem, hex, t3, ta, tb, t30, hx, hnx, cov_late, h18, g1, g2]; (try simp (disch := omega) only [IntWalk.i64_in, IntWalk.u64_in, if_neg, if_pos])<;> rfl) (by simp only [go_sem] <;> rfl) ?_
          refine Run.op (by simp only [go_sem] <;> rfl) (by simp only [go_sem] <;> rfl) ?_
          refine Run.nil ?_
          refine ForK.nxt ?_ ?_ ?_
          · omega
          · exact Ghost.kp [9, 10, 14, 16, 17, 99, 100, 101] [16] (by simp only [go_sem, hex, t3, ta, tb, t30, hx, hnx, cov_late, h18, g1, g2]; first | ((repeat' (first | with_reducible_and_instances rfl | refine st_eq ?_ ?_ ?_ | refine ret_eq ?_ | refine tup_eq ?_ | refine tm_eq ?_ ?_ | refine arr_eq ?_ | refine cells_eq ?_ | refine val_eq ?_ | refine ls_eq ?_ ?_ | refine own_eq ?_ ?_ | refine sl_eq ?_ | refine b_eq ?_ | (refine i_eq ?_; omega))); (all_goals (simp [Bool.and_assoc]))) | rfl)
          · trivial
        have g1 : (o.kind == 2) = false := by simpa using hk4
        refine Exec.reg1 ?_
        refine Run.op (by simp only [go_sem] <;> rfl) (by simp only [go_sem] <;> rfl) ?_
        refine Run.op (by simp only [go_sem, hex, t3, ta, tb, t30, hx, hnx, cov_late, h18, g1] <;> rfl) (by simp only [go_sem] <;> rfl) ?_
        refine Run.yes (by simp only [go_sem] <;> rfl) (by simp only [go_sem] <;> rfl) (by simp only [go_sem] <;> rfl) ?_
        refine Run.yes (by simp only [go_sem] <;> rfl) (by simp only [go_sem, hex, t3, ta, tb, t30, hx, hnx, cov_late, h18, g1] <;> rfl) (by simp only [go_sem] <;> rfl) ?_
        refine Run.yes (by simp only [go_sem] <;> rfl) (by simp only [go_sem] <;> rfl) (by simp only [go_sem] <;> rfl) ?_
        iterate 3 (refine Run.yes (by simp only [go_sem] <;> rfl) (by simp only [go_sem, hex, t3, ta, tb, t30, hx, hnx, cov_late, h18, g1] <;> rfl) (by simp only [go_sem] <;> rfl) ?_)
        iterate 5 (refine Run.skp (by simp only [go_sem] <;> rfl) (by simp only [go_sem] <;> rfl) ?_)
        iterate 2 (refine Run.yes (by simp only [go_sem] <;> rfl) (by simp only [go_sem, hex, t3, ta, tb, t30, hx, hnx, cov_late, h18, g1] <;> rfl) (by simp only [go_sem] <;> rfl) ?_)
        iterate 5 (refine Run.skp (by simp only [go_sem] <;> rfl) (by simp only [go_sem] <;> rfl) ?_)
        iterate 2 (refine Run.yes (by simp only [go_sem] <;> rfl) (by simp only [go_sem, hex, t3, ta, tb, t30, hx, hnx, cov_late, h18, g1] <;> rfl) (by simp only [go_sem] <;> rfl) ?_)
        iterate 5 (refine Run.skp (by simp only [go_sem] <;> rfl) (by simp only [go_sem] <;> rfl) ?_)
        refine Run.yes (by simp only [go_sem] <;> rfl) (by simp only [go_sem, hex, t3, ta, tb, t30, hx, hnx, cov_late, h18, g1] <;> rfl) (by simp only [go_sem] <;> rfl) ?_
        refine Run.op (by simp only [go_sem, hex, t3, ta, tb, t30, hx, hnx, cov_late, h18, g1] <;> rfl) (by simp only [go_sem] <;> rfl) ?_
        refine Run.op (by simp only [go_sem] <;> rfl) (by simp only [go_sem] <;> rfl) ?_
        refine Run.nil ?_
        refine Blk1K.nrm ?_
        refine BlkK.nrm ?_
        refine Exec.reg1 ?_
        refine Run.op (by simp only [go_sem, hex, t3, ta, tb, t30, hx, hnx, cov_late, h18, g1]; (try simp (disch := omega) only [IntWalk.i64_in, IntWalk.u64_in, if_neg, if_pos])<;> rfl) (by simp only [go_sem] <;> rfl) ?_
        refine Run.op (by simp only [go_sem] <;> rfl) (by simp only [go_sem] <;> rfl) ?_
        refine Run.nil ?_
        refine ForK.nxt ?_ ?_ ?_
        · omega
        · exact Ghost.kp [9, 10, 14, 16, 17, 99, 100, 101] [16] (by simp only [go_sem, hex, t3, ta, tb, t30, hx, hnx, cov_late, h18, g1]; first | ((repeat' (first | with_reducible_and_instances rfl | refine st_eq ?_ ?_ ?_ | refine ret_eq ?_ | refine tup_eq ?_ | refine tm_eq ?_ ?_ | refine arr_eq ?_ | refine cells_eq ?_ | refine val_eq ?_ | refine ls_eq ?_ ?_ | refine own_eq ?_ ?_ | refine sl_eq ?_ | refine b_eq ?_ | (refine i_eq ?_; omega))); (all_goals (simp [Bool.and_assoc]))) | rfl)
        · trivial
      · exact absurd hb153 (by simp)
    obtain ⟨hxk, hxc, hxw⟩ := all_other hxm hk2
    have hk2b : (x.kind == 2) = false := by simpa using hk2
    have hcv := cov_ne (o := o) hk2
    have hgc : (x.c != 0) = false := by simp [hxc]
    refine Exec.reg ?_
    refine Run.op (by simp only [go_sem] <;> rfl) (by simp only [go_sem] <;> rfl) ?_
    refine Run.op (by simp only [go_sem, hex, t3, ta, tb, t30, hx, hk2b, hnx, hcv, hgc, hxw, Bool.not_true] <;> rfl) (by simp only [go_sem] <;> rfl) ?_
    refine Run.nil ?_
    refine Exec.blk1 ?_
    refine Exec.reg ?_
    refine Run.op (by simp only [go_sem, hex, t3, ta, tb, t30, hx, hk2b, hnx, hcv, hgc, hxw, Bool.not_true] <;> rfl) (by simp only [go_sem] <;> rfl) ?_
    refine Run.op (by simp only [go_sem] <;> rfl) (by simp only [go_sem] <;> rfl) ?_
    refine Run.nil ?_
    refine Exec.cnd (by simp only [go_sem, hex, t3, ta, tb, t30, hx, hk2b, hnx, hcv, hgc, hxw, Bool.not_true] <;> rfl) (fun hb153 => ?_) (fun hb153 => ?_)
    · exact absurd hb153 (by simp)
    refine Exec.assocS ?_
    by_cases hk00 : x.kind = 0
    · skip
      have hg0 : (x.kind == 0) = true := by simpa using hk00
      refine Exec.reg ?_
      refine Run.op (by simp only [go_sem, hex, t3, ta, tb, t30, hx, hk2b, hnx, hcv, hgc, hxw, Bool.not_true, hg0] <;> rfl) (by simp only [go_sem] <;> rfl) ?_
      refine Run.op (by simp only [go_sem] <;> rfl) (by simp only [go_sem] <;> rfl) ?_
      refine Run.nil ?_
      refine Exec.cndS (by simp only [go_sem, hex, t3, ta, tb, t30, hx, hk2b, hnx, hcv, hgc, hxw, Bool.not_true, hg0] <;> rfl) (fun hb226 => ?_) (fun hb226 => ?_)
      · skip
        refine Exec.skipS ?_
        refine Exec.cnd (by simp only [go_sem, hex, t3, ta, tb, t30, hx, hk2b, hnx, hcv, hgc, hxw, Bool.not_true, hg0] <;> rfl) (fun hb226 => ?_) (fun hb226 => ?_)
        · skip
          refine Exec.assocS ?_
          refine Exec.reg ?_
          refine Run.op (by simp only [go_sem] <;> rfl) (by simp only [go_sem] <;> rfl) ?_
          iterate 3 (refine Run.op (by simp only [go_sem, hex, t3, ta, tb, t30, hx, hk2b, hnx, hcv, hgc, hxw, Bool.not_true, hg0] <;> rfl) (by simp only [go_sem] <;> rfl) ?_)
          refine Run.yes (by simp only [go_sem] <;> rfl) (by simp only [go_sem] <;> rfl) (by simp only [go_sem] <;> rfl) ?_
          refine Run.yes (by simp only [go_sem] <;> rfl) (by simp only [go_sem, hex, t3, ta, tb, t30, hx, hk2b, hnx, hcv, hgc, hxw, Bool.not_true, hg0] <;> rfl) (by simp only [go_sem] <;> rfl) ?_
          refine Run.calw (by simp only [go_sem] <;> rfl) (c_law_fits w (x) h1 h2 hw (by omega)) (by simp only [go_sem]) (by simp only [go_sem, hex, t3, ta, tb, t30, hx, hk2b, hnx, hcv, hgc, hxw, Bool.not_true, hg0] <;> rfl) (by simp only [go_sem, hex, t3, ta, tb, t30, hx, hk2b, hnx, hcv, hgc, hxw, Bool.not_true, hg0] <;> rfl) (by exact ⟨by first | exact WkR.pure rfl | exact WkR.nil _ | exact WkR.int (by first | omega | (simp; done) | (simp; omega)), by first | exact WkR.pure rfl | exact WkR.nil _ | exact WkR.int (by first | omega | (simp; done) | (simp; omega)), trivial⟩) (fr0) (by simp only [go_sem, hex, t3, ta, tb, t30, hx, hk2b, hnx, hcv, hgc, hxw, Bool.not_true, hg0] <;> rfl) ?_
          refine Run.yes (by simp only [go_sem] <;> rfl) (by simp only [go_sem, hex, t3, ta, tb, t30, hx, hk2b, hnx, hcv, hgc, hxw, Bool.not_true, hg0] <;> rfl) (by simp only [go_sem] <;> rfl) ?_
          refine Run.op (by simp only [go_sem, hex, t3, ta, tb, t30, hx, hk2b, hnx, hcv, hgc, hxw, Bool.not_true, hg0] <;> rfl) (by simp only [go_sem] <;> rfl) ?_
          refine Run.nil ?_
          refine Exec.cndS (by simp only [go_sem, hex, t3, ta, tb, t30, hx, hk2b, hnx, hcv, hgc, hxw, Bool.not_true, hg0] <;> rfl) (fun hb237 => ?_) (fun hb237 => ?_)
          · skip
            exact absurd hb237 (by simp)
          refine Exec.skipS ?_
          refine Exec.reg1 ?_
          refine Run.op (by simp only [go_sem] <;> rfl) (by simp only [go_sem] <;> rfl) ?_
          refine Run.op (by simp only [go_sem, hex, t3, ta, tb, t30, hx, hk2b, hnx, hcv, hgc, hxw, Bool.not_true, hg0] <;> rfl) (by simp only [go_sem] <;> rfl) ?_
          iterate 3 (refine Run.gop (by simp only [go_sem] <;> rfl) (by simp only [go_sem, hex, t3, ta, tb, t30, hx, hk2b, hnx, hcv, hgc, hxw, Bool.not_true, hg0] <;> rfl) (by simp only [go_sem] <;> rfl) ?_)
          refine Run.op (by simp only [go_sem, hex, t3, ta, tb, t30, hx, hk2b, hnx, hcv, hgc, hxw, Bool.not_true, hg0] <;> rfl) (by simp only [go_sem] <;> rfl) ?_
          refine Run.op (by simp only [go_sem] <;> rfl) (by simp only [go_sem] <;> rfl) ?_
          refine Run.nil ?_
          refine Blk1K.nrm ?_
          refine BlkK.nrm ?_
          refine Exec.reg1 ?_
          refine Run.op (by simp only [go_sem, hex, t3, ta, tb, t30, hx, hk2b, hnx, hcv, hgc, hxw, Bool.not_true, hg0]; (try simp (disch := omega) only [IntWalk.i64_in, IntWalk.u64_in, if_neg, if_pos])<;> rfl) (by simp only [go_sem] <;> rfl) ?_
          refine Run.op (by simp only [go_sem] <;> rfl) (by simp only [go_sem] <;> rfl) ?_
          refine Run.nil ?_
          refine ForK.nxt ?_ ?_ ?_
          · omega
          · exact Ghost.kp [9, 10, 14, 16, 17, 99, 100, 101] [16] (by simp only [go_sem, hex, t3, ta, tb, t30, hx, hk2b, hnx, hcv, hgc, hxw, Bool.not_true, hg0]; first | ((repeat' (first | with_reducible_and_instances rfl | refine st_eq ?_ ?_ ?_ | refine ret_eq ?_ | refine tup_eq ?_ | refine tm_eq ?_ ?_ | refine arr_eq ?_ | refine cells_eq ?_ | refine val_eq ?_ | refine ls_eq ?_ ?_ | refine own_eq ?_ ?_ | refine sl_eq ?_ | refine b_eq ?_ | (refine i_eq ?_; omega))); (all_goals (simp))) | rfl)
          · trivial
        · exact absurd hb226 (by simp)
      · exact absurd hb226 (by simp)
    have hk01 : x.kind = 1 := by omega
    have hg0 : (x.kind == 0) = false := by simpa using hk00
    have hg1 : (x.kind == 1) = true := by simpa using hk01
    refine Exec.reg ?_
    refine Run.op (by simp only [go_sem, hex, t3, ta, tb, t30, hx, hk2b, hnx, hcv, hgc, hxw, Bool.not_true, hg0, hg1] <;> rfl) (by simp only [go_sem] <;> rfl) ?_
    refine Run.op (by simp only [go_sem] <;> rfl) (by simp only [go_sem] <;> rfl) ?_
    refine Run.nil ?_
    refine Exec.cndS (by simp only [go_sem, hex, t3, ta, tb, t30, hx, hk2b, hnx, hcv, hgc, hxw, Bool.not_true, hg0, hg1] <;> rfl) (fun hb226 => ?_) (fun hb226 => ?_)
    · exact absurd hb226 (by simp)
    by_cases h11 : x.kind = 1
    · skip
      skip
      refine Exec.reg ?_
      refine Run.op (by simp only [go_sem, hex, t3, ta, tb, t30, hx, hk2b, hnx, hcv, hgc, hxw, Bool.not_true, hg0, hg1] <;> rfl) (by simp only [go_sem] <;> rfl) ?_
      refine Run.op (by simp only [go_sem] <;> rfl) (by simp only [go_sem] <;> rfl) ?_
      refine Run.nil ?_
      refine Exec.cnd (by simp only [go_sem, hex, t3, ta, tb, t30, hx, hk2b, hnx, hcv, hgc, hxw, Bool.not_true, hg0, hg1] <;> rfl) (fun hb226 => ?_) (fun hb226 => ?_)
      · skip
        refine Exec.assocS ?_
        refine Exec.reg ?_
        refine Run.op (by simp only [go_sem] <;> rfl) (by simp only [go_sem] <;> rfl) ?_
        iterate 3 (refine Run.op (by simp only [go_sem, hex, t3, ta, tb, t30, hx, hk2b, hnx, hcv, hgc, hxw, Bool.not_true, hg0, hg1] <;> rfl) (by simp only [go_sem] <;> rfl) ?_)
        refine Run.yes (by simp only [go_sem] <;> rfl) (by simp only [go_sem] <;> rfl) (by simp only [go_sem] <;> rfl) ?_
        refine Run.yes (by simp only [go_sem] <;> rfl) (by simp only [go_sem, hex, t3, ta, tb, t30, hx, hk2b, hnx, hcv, hgc, hxw, Bool.not_true, hg0, hg1] <;> rfl) (by simp only [go_sem] <;> rfl) ?_
        refine Run.calw (by simp only [go_sem] <;> rfl) (c_law_fits w (x) h1 h2 hw (by omega)) (by simp only [go_sem]) (by simp only [go_sem, hex, t3, ta, tb, t30, hx, hk2b, hnx, hcv, hgc, hxw, Bool.not_true, hg0, hg1] <;> rfl) (by simp only [go_sem, hex, t3, ta, tb, t30, hx, hk2b, hnx, hcv, hgc, hxw, Bool.not_true, hg0, hg1] <;> rfl) (by exact ⟨by first | exact WkR.pure rfl | exact WkR.nil _ | exact WkR.int (by first | omega | (simp; done) | (simp; omega)), by first | exact WkR.pure rfl | exact WkR.nil _ | exact WkR.int (by first | omega | (simp; done) | (simp; omega)), trivial⟩) (fr0) (by simp only [go_sem, hex, t3, ta, tb, t30, hx, hk2b, hnx, hcv, hgc, hxw, Bool.not_true, hg0, hg1] <;> rfl) ?_
        refine Run.yes (by simp only [go_sem] <;> rfl) (by simp only [go_sem, hex, t3, ta, tb, t30, hx, hk2b, hnx, hcv, hgc, hxw, Bool.not_true, hg0, hg1] <;> rfl) (by simp only [go_sem] <;> rfl) ?_
        refine Run.op (by simp only [go_sem, hex, t3, ta, tb, t30, hx, hk2b, hnx, hcv, hgc, hxw, Bool.not_true, hg0, hg1] <;> rfl) (by simp only [go_sem] <;> rfl) ?_
        refine Run.nil ?_
        refine Exec.cndS (by simp only [go_sem, hex, t3, ta, tb, t30, hx, hk2b, hnx, hcv, hgc, hxw, Bool.not_true, hg0, hg1] <;> rfl) (fun hb237 => ?_) (fun hb237 => ?_)
        · skip
          exact absurd hb237 (by simp)
        refine Exec.skipS ?_
        refine Exec.reg1 ?_
        refine Run.op (by simp only [go_sem] <;> rfl) (by simp only [go_sem] <;> rfl) ?_
        refine Run.op (by simp only [go_sem, hex, t3, ta, tb, t30, hx, hk2b, hnx, hcv, hgc, hxw, Bool.not_true, hg0, hg1] <;> rfl) (by simp only [go_sem] <;> rfl) ?_
        iterate 3 (refine Run.gop (by simp only [go_sem] <;> rfl) (by simp only [go_sem, hex, t3, ta, tb, t30, hx, hk2b, hnx, hcv, hgc, hxw, Bool.not_true, hg0, hg1] <;> rfl) (by simp only [go_sem] <;> rfl) ?_)
        refine Run.op (by simp only [go_sem, hex, t3, ta, tb, t30, hx, hk2b, hnx, hcv, hgc, hxw, Bool.not_true, hg0, hg1] <;> rfl) (by simp only [go_sem] <;> rfl) ?_
        refine Run.op (by simp only [go_sem] <;> rfl) (by simp only [go_sem] <;> rfl) ?_
        refine Run.nil ?_
        refine Blk1K.nrm ?_
        refine BlkK.nrm ?_
        refine Exec.reg1 ?_
        refine Run.op (by simp only [go_sem, hex, t3, ta, tb, t30, hx, hk2b, hnx, hcv, hgc, hxw, Bool.not_true, hg0, hg1]; (try simp (disch := omega) only [IntWalk.i64_in, IntWalk.u64_in, if_neg, if_pos])<;> rfl) (by simp only [go_sem] <;> rfl) ?_
        refine Run.op (by simp only [go_sem] <;> rfl) (by simp only [go_sem] <;> rfl) ?_
        refine Run.nil ?_
        refine ForK.nxt ?_ ?_ ?_
        · omega
        · exact Ghost.kp [9, 10, 14, 16, 17, 99, 100, 101] [16] (by simp only [go_sem, hex, t3, ta, tb, t30, hx, hk2b, hnx, hcv, hgc, hxw, Bool.not_true, hg0, hg1]; first | ((repeat' (first | with_reducible_and_instances rfl | refine st_eq ?_ ?_ ?_ | refine ret_eq ?_ | refine tup_eq ?_ | refine tm_eq ?_ ?_ | refine arr_eq ?_ | refine cells_eq ?_ | refine val_eq ?_ | refine ls_eq ?_ ?_ | refine own_eq ?_ ?_ | refine sl_eq ?_ | refine b_eq ?_ | (refine i_eq ?_; omega))); (all_goals (simp))) | rfl)
        · trivial
      · exact absurd hb226 (by simp)
    exact absurd hk01 h11
  have hke : k = (allS w).length := by have := ge_of_dec hb102; omega
  subst hke
  have hfin : ((allS w).take (allS w).length).any (covB o) = worksS w o := by rw [List.take_length]; exact cov_all hw ho2 ho3.1 ho1 ho4
  have hfin2 : (allS w).any (covB o) = worksS w o := cov_all hw ho2 ho3.1 ho1 ho4
  refine Exec.exitS ?_
  refine ForK.ext ?_
  refine BlkK.hit ?_
  by_cases ha0 : allS w = []
  · skip
    have ha1 : (allS w).length = 0 := by rw [ha0]; rfl
    refine Exec.reg ?_
    refine Run.op (by simp only [go_sem] <;> rfl) (by simp only [go_sem] <;> rfl) ?_
    iterate 2 (refine Run.op (by simp only [go_sem, hex, t3, ta, tb, t30, hfin, hfin2, Int.natCast_zero, if_pos ha0, ha1] <;> rfl) (by simp only [go_sem] <;> rfl) ?_)
    iterate 3 (refine Run.skp (by simp only [go_sem] <;> rfl) (by simp only [go_sem] <;> rfl) ?_)
    iterate 2 (refine Run.op (by simp only [go_sem, hex, t3, ta, tb, t30, hfin, hfin2, Int.natCast_zero, if_pos ha0, ha1] <;> rfl) (by simp only [go_sem] <;> rfl) ?_)
    refine Run.yes (by simp only [go_sem] <;> rfl) (by simp only [go_sem] <;> rfl) (by simp only [go_sem] <;> rfl) ?_
    iterate 2 (refine Run.yes (by simp only [go_sem] <;> rfl) (by simp only [go_sem, hex, t3, ta, tb, t30, hfin, hfin2, Int.natCast_zero, if_pos ha0, ha1] <;> rfl) (by simp only [go_sem] <;> rfl) ?_)
    refine Run.yes (by simp only [go_sem] <;> rfl) (by simp only [go_sem] <;> rfl) (by simp only [go_sem] <;> rfl) ?_
    iterate 3 (refine Run.yes (by simp only [go_sem] <;> rfl) (by simp only [go_sem, hex, t3, ta, tb, t30, hfin, hfin2, Int.natCast_zero, if_pos ha0, ha1] <;> rfl) (by simp only [go_sem] <;> rfl) ?_)
    iterate 2 (refine Run.op (by simp only [go_sem, hex, t3, ta, tb, t30, hfin, hfin2, Int.natCast_zero, if_pos ha0, ha1] <;> rfl) (by simp only [go_sem] <;> rfl) ?_)
    iterate 2 (refine Run.yes (by simp only [go_sem] <;> rfl) (by simp only [go_sem] <;> rfl) (by simp only [go_sem] <;> rfl) ?_)
    refine Run.yes (by simp only [go_sem] <;> rfl) (by simp only [go_sem, hex, t3, ta, tb, t30, hfin, hfin2, Int.natCast_zero, if_pos ha0, ha1] <;> rfl) (by simp only [go_sem] <;> rfl) ?_
    refine Run.calw (by simp only [go_sem] <;> rfl) (c_law_fits w (o) h1 h2 hw (by omega)) (by simp only [go_sem]) (by simp only [go_sem, hex, t3, ta, tb, t30, hfin, hfin2, Int.natCast_zero, if_pos ha0, ha1] <;> rfl) (by simp only [go_sem, hex, t3, ta, tb, t30, hfin, hfin2, Int.natCast_zero, if_pos ha0, ha1] <;> rfl) (by exact ⟨by first | exact WkR.pure rfl | exact WkR.nil _ | exact WkR.int (by first | omega | (simp; done) | (simp; omega)), by first | exact WkR.pure rfl | exact WkR.nil _ | exact WkR.int (by first | omega | (simp; done) | (simp; omega)), trivial⟩) (fr0) (by simp only [go_sem, hex, t3, ta, tb, t30, hfin, hfin2, Int.natCast_zero, if_pos ha0, ha1] <;> rfl) ?_
    refine Run.yes (by simp only [go_sem] <;> rfl) (by simp only [go_sem, hex, t3, ta, tb, t30, hfin, hfin2, Int.natCast_zero, if_pos ha0, ha1] <;> rfl) (by simp only [go_sem] <;> rfl) ?_
    iterate 2 (refine Run.op (by simp only [go_sem, hex, t3, ta, tb, t30, hfin, hfin2, Int.natCast_zero, if_pos ha0, ha1] <;> rfl) (by simp only [go_sem] <;> rfl) ?_)
    refine Run.calw (by simp only [go_sem] <;> rfl) (c_law_alive) (by simp only [go_sem]) (by simp only [go_sem, hex, t3, ta, tb, t30, hfin, hfin2, Int.natCast_zero, if_pos ha0, ha1] <;> rfl) (by simp only [go_sem, hex, t3, ta, tb, t30, hfin, hfin2, Int.natCast_zero, if_pos ha0, ha1] <;> rfl) (by exact trivial) (fr0) (by simp only [go_sem, hex, t3, ta, tb, t30, hfin, hfin2, Int.natCast_zero, if_pos ha0, ha1] <;> rfl) ?_
    refine Run.op (by simp only [go_sem, hex, t3, ta, tb, t30, hfin, hfin2, Int.natCast_zero, if_pos ha0, ha1] <;> rfl) (by simp only [go_sem] <;> rfl) ?_
    refine Run.op (by simp only [go_sem] <;> rfl) (by simp only [go_sem] <;> rfl) ?_
    refine Run.nil ?_
    exact Ends.fin [] (rs := [.tmp 8]) rfl (by simp only [go_sem, hex, t3, ta, tb, t30, hfin, hfin2, Int.natCast_zero, if_pos ha0, ha1] <;> rfl) (by simp only [go_sem, hex, t3, ta, tb, t30, hfin, hfin2, Int.natCast_zero, if_pos ha0, ha1] <;> first | rfl | ((repeat' (first | with_reducible_and_instances rfl | refine st_eq ?_ ?_ ?_ | refine ret_eq ?_ | refine tup_eq ?_ | refine tm_eq ?_ ?_ | refine arr_eq ?_ | refine cells_eq ?_ | refine val_eq ?_ | refine ls_eq ?_ ?_ | refine own_eq ?_ ?_ | refine sl_eq ?_ | refine b_eq ?_ | (refine i_eq ?_; omega))); done))
  have ha1 : decide (((allS w).length : Int) > 0) = true := by have := List.length_pos_iff.2 ha0; simp; omega
  refine Exec.reg ?_
  refine Run.op (by simp only [go_sem] <;> rfl) (by simp only [go_sem] <;> rfl) ?_
  iterate 2 (refine Run.op (by simp only [go_sem, hex, t3, ta, tb, t30, hfin, hfin2, Int.natCast_zero, if_neg ha0, ha1] <;> rfl) (by simp only [go_sem] <;> rfl) ?_)
  refine Run.yes (by simp only [go_sem] <;> rfl) (by simp only [go_sem] <;> rfl) (by simp only [go_sem] <;> rfl) ?_
  iterate 2 (refine Run.yes (by simp only [go_sem] <;> rfl) (by simp only [go_sem, hex, t3, ta, tb, t30, hfin, hfin2, Int.natCast_zero, if_neg ha0, ha1] <;> rfl) (by simp only [go_sem] <;> rfl) ?_)
  iterate 2 (refine Run.op (by simp only [go_sem, hex, t3, ta, tb, t30, hfin, hfin2, Int.natCast_zero, if_neg ha0, ha1] <;> rfl) (by simp only [go_sem] <;> rfl) ?_)
  iterate 7 (refine Run.skp (by simp only [go_sem] <;> rfl) (by simp only [go_sem] <;> rfl) ?_)
  iterate 2 (refine Run.op (by simp only [go_sem, hex, t3, ta, tb, t30, hfin, hfin2, Int.natCast_zero, if_neg ha0, ha1] <;> rfl) (by simp only [go_sem] <;> rfl) ?_)
  iterate 2 (refine Run.yes (by simp only [go_sem] <;> rfl) (by simp only [go_sem] <;> rfl) (by simp only [go_sem] <;> rfl) ?_)
  refine Run.yes (by simp only [go_sem] <;> rfl) (by simp only [go_sem, hex, t3, ta, tb, t30, hfin, hfin2, Int.natCast_zero, if_neg ha0, ha1] <;> rfl) (by simp only [go_sem] <;> rfl) ?_
  refine Run.calw (by simp only [go_sem] <;> rfl) (c_law_fits w (o) h1 h2 hw (by omega)) (by simp only [go_sem]) (by simp only [go_sem, hex, t3, ta, tb, t30, hfin, hfin2, Int.natCast_zero, if_neg ha0, ha1] <;> rfl) (by simp only [go_sem, hex, t3, ta, tb, t30, hfin, hfin2, Int.natCast_zero, if_neg ha0, ha1] <;> rfl) (by exact ⟨by first | exact WkR.pure rfl | exact WkR.nil _ | exact WkR.int (by first | omega | (simp; done) | (simp; omega)), by first | exact WkR.pure rfl | exact WkR.nil _ | exact WkR.int (by first | omega | (simp; done) | (simp; omega)), trivial⟩) (fr0) (by simp only [go_sem, hex, t3, ta, tb, t30, hfin, hfin2, Int.natCast_zero, if_neg ha0, ha1] <;> rfl) ?_
  refine Run.yes (by simp only [go_sem] <;> rfl) (by simp only [go_sem, hex, t3, ta, tb, t30, hfin, hfin2, Int.natCast_zero, if_neg ha0, ha1] <;> rfl) (by simp only [go_sem] <;> rfl) ?_
  iterate 2 (refine Run.op (by simp only [go_sem, hex, t3, ta, tb, t30, hfin, hfin2, Int.natCast_zero, if_neg ha0, ha1] <;> rfl) (by simp only [go_sem] <;> rfl) ?_)
  refine Run.calw (by simp only [go_sem] <;> rfl) (c_law_alive) (by simp only [go_sem]) (by simp only [go_sem, hex, t3, ta, tb, t30, hfin, hfin2, Int.natCast_zero, if_neg ha0, ha1] <;> rfl) (by simp only [go_sem, hex, t3, ta, tb, t30, hfin, hfin2, Int.natCast_zero, if_neg ha0, ha1] <;> rfl) (by exact trivial) (fr0) (by simp only [go_sem, hex, t3, ta, tb, t30, hfin, hfin2, Int.natCast_zero, if_neg ha0, ha1] <;> rfl) ?_
  refine Run.op (by simp only [go_sem, hex, t3, ta, tb, t30, hfin, hfin2, Int.natCast_zero, if_neg ha0, ha1] <;> rfl) (by simp only [go_sem] <;> rfl) ?_
  refine Run.op (by simp only [go_sem] <;> rfl) (by simp only [go_sem] <;> rfl) ?_
  refine Run.nil ?_
  exact Ends.fin [] (rs := [.tmp 8]) rfl (by simp only [go_sem, hex, t3, ta, tb, t30, hfin, hfin2, Int.natCast_zero, if_neg ha0, ha1] <;> rfl) (by simp only [go_sem, hex, t3, ta, tb, t30, hfin, hfin2, Int.natCast_zero, if_neg ha0, ha1] <;> first | rfl | ((repeat' (first | with_reducible_and_instances rfl | refine st_eq ?_ ?_ ?_ | refine ret_eq ?_ | refine tup_eq ?_ | refine tm_eq ?_ ?_ | refine arr_eq ?_ | refine cells_eq ?_ | refine val_eq ?_ | refine ls_eq ?_ ?_ | refine own_eq ?_ ?_ | refine sl_eq ?_ | refine b_eq ?_ | (refine i_eq ?_; omega))); done))

end Go.Mw
namespace Go.Mw
open Go.RowKit Go.ChangeShapes Go.WideShapes

section
variable {H : Type} {enc : TypeId × Value → H} {P : Program} {w : World} {base : Nat} {spare : Nat → Bool} {held : Bool} {v : Value} {d : DataW H} {ps : List MemPlace} {t : TypeId}
theorem int_read {k : IntKind} {b0 : Nat} {r : Reach} (ht : P.underlying t = some (.int k)) (hv : Value.okWide P w r b0 t v) (h : DataW.Trod enc P w base spare held t v d ps) :
    ∃ n : Int, (Lit.int k n).wf = true ∧ RepV (fun b _ => b < w.heap.size) noVal (look []) w (.leaf (.d (.raw (.int k n)))) v := by
  obtain ⟨n, rfl, _, _, hw⟩ := open_int ht hv h
  exact ⟨n, hw, _, rfl, .raw _ rfl⟩
theorem u8_read {b0 : Nat} {r : Reach} (ht : P.underlying t = some (.int .u8)) (hv : Value.okWide P w r b0 t v) (h : DataW.Trod enc P w base spare held t v d ps) :
    ∃ n : Nat, n ≤ 255 ∧ RepV (fun b _ => b < w.heap.size) noVal (look []) w (.leaf (.d (.raw (.int .u8 (n : Int))))) v := by
  obtain ⟨n, hw, hr⟩ := int_read ht hv h
  have h2 : 0 ≤ n ∧ n ≤ 255 := by
    simp only [Lit.wf, Bool.and_eq_true, decide_eq_true_eq] at hw
    have e1 : IntKind.u8.min = 0 := by decide
    have e2 : IntKind.u8.max = 255 := by decide
    omega
  refine ⟨n.toNat, by omega, ?_⟩
  rw [show ((n.toNat : Nat) : Int) = n by omega]
  exact hr
end
end Go.Mw
namespace Go.Mw
open Go.Proofs Go.RowKit Go.ChangeShapes Go.WideShapes

@[go_sem] def encU16 (n : Nat) : List D := [.raw (.int .u16 (n : Int))]
section
variable {H : Type} {enc : TypeId × Value → H} {W : World} {v : Value} {d : DataW H} {ps : List MemPlace}
end
end Go.Mw

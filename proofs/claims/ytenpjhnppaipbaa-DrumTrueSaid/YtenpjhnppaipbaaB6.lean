/- Contracts of the functions that the drum reaches: places of all drums. -/
import Derived.Test.YtenpjhnppaipbaaB5
set_option linter.unusedSimpArgs false
set_option linter.unusedVariables false
set_option linter.unusedSectionVars false
set_option linter.deprecated false
namespace Go.Mw
open Go.Proofs
open Go.Dr
set_option maxRecDepth 20000 in
set_option maxHeartbeats 2000000 in
/-- meterworks/drum.list -/
theorem c_drum_list (n : Int) (hn : 1 ≤ n ∧ n ≤ 6) (t : Int) (ht : 0 ≤ t ∧ t ≤ 2000000000) {g : FuncId} {ds : List D} (c : Int → Int) (hg : canCall Try.prog g = true) (hc : ∀ p, 0 ≤ p ∧ p ≤ 9999 → Contract Try.prog g (.int p :: ds.map fun x => .leaf (.d x)) (.int (c p)) []) : Contract Try.prog 30 [.int n, .int t, .leaf (.d (.fn g ds))] (.leaf (.d (intsD ((placesD n.toNat t).map c)))) [] := by
  have hsl : List.map (fun x => [x]) (List.take n.toNat [D.i (placeD t 0), D.i (placeD t 1), D.i (placeD t 2), D.i (placeD t 3), D.i (placeD t 4), D.i (placeD t 5)]) = (placesD n.toNat t).map encInt := by rw [← take_places n.toNat (by omega) t, List.map_take, List.map_take]; rfl
  have hpl := places_len n.toNat t
  have hz : List.map c (placesD 0 t) = [] := rfl
  refine con_of follows_mixed Try.func30 rfl (by simp only [List.length_cons, List.length_nil, Try.ntmps30]; omega) (by kernel_rfl) rfl ?_
  refine Exec.reg ?_
  refine Run.op (by simp only [go_sem, hsl, hpl] <;> rfl) (by simp only [go_sem] <;> rfl) ?_
  refine Run.nil ?_
  refine Exec.reg ?_
  refine Run.op (by simp only [go_sem, hsl, hpl] <;> rfl) (by simp only [go_sem] <;> rfl) ?_
  refine Run.cal (c_drum_placesOf t ht) (by simp only [go_sem]) (by simp only [go_sem, hsl, hpl] <;> rfl) (by exact ⟨by first | exact WkR.pure rfl | exact WkR.nil _ | exact WkR.int (by first | omega | (simp; done) | (simp; omega)), trivial⟩) (fr0) (by simp only [go_sem, hsl, hpl] <;> rfl) ?_
  iterate 2 (refine Run.op (by simp only [go_sem, hsl, hpl] <;> rfl) (by simp only [go_sem] <;> rfl) ?_)
  refine Run.nil ?_
  refine Exec.assocS ?_
  refine Exec.reg ?_
  refine Run.nilo 6 1000 3 1 (by simp only [go_sem] <;> rfl) (by simp only [go_sem] <;> rfl) (by omega) (by omega) (by simp only [go_sem] <;> rfl) ?_
  refine Run.frz 7 (by simp only [go_sem] <;> rfl) ?_
  refine Run.op (by simp only [go_sem, hsl, hpl] <;> rfl) (by simp only [go_sem] <;> rfl) ?_
  refine Run.op (by simp only [go_sem, hsl, hpl]; (try simp (disch := omega) only [if_pos]); (try simp only [go_sem, hsl, hpl])<;> rfl) (by simp only [go_sem] <;> rfl) ?_
  iterate 2 (refine Run.op (by simp only [go_sem, hsl, hpl] <;> rfl) (by simp only [go_sem] <;> rfl) ?_)
  refine Run.nil ?_
  refine Exec.blk ?_
  refine Exec.forA [2, 6, 13, 14, 15] [1000] (n.toNat) (fun k => [.slot 15 (.int k), .slot 6 (.leaf (.own 1000 0 ((placesD k t).map c).length ((placesD k t).map c).length)), .obj 1000 (.arr 3 1 (((placesD k t).map c).map encInt))]) (fun _ => True) (fun k => by simp only [go_sem] <;> rfl) (by simp only [go_sem, hsl, hpl, Int.natCast_zero, hz] <;> rfl) ?_ (fun k hk hX => ?_)
  · trivial
  · skip
    refine Exec.reg ?_
    refine Run.op (by simp only [go_sem, hsl, hpl] <;> rfl) (by simp only [go_sem] <;> rfl) ?_
    refine Run.nil ?_
    refine Exec.cndS (by simp only [go_sem, hsl, hpl] <;> rfl) (fun hb16 => ?_) (fun hb16 => ?_)
    · skip
      have hlt : k < n.toNat := by have := of_decide_eq_true hb16; omega
      have hpg := places_get t hlt
      have hsu := places_succ k t
      have hlen := places_len k t
      refine Exec.skipS ?_
      refine Exec.blk ?_
      refine Exec.reg ?_
      refine Run.op (by simp only [go_sem, hsl, hpl, hpg]; (try simp (disch := omega) only [if_pos]); (try simp only [go_sem, hsl, hpl, hpg])<;> rfl) (by simp only [go_sem] <;> rfl) ?_
      iterate 2 (refine Run.op (by simp only [go_sem, hsl, hpl, hpg] <;> rfl) (by simp only [go_sem] <;> rfl) ?_)
      refine Run.nil ?_
      refine Exec.reg1 ?_
      iterate 3 (refine Run.op (by simp only [go_sem, hsl, hpl, hpg] <;> rfl) (by simp only [go_sem] <;> rfl) ?_)
      refine Run.calw (by simp only [go_sem] <;> rfl) (hc (placeD t k) (place_bnd t k)) (by assumption) (by simp only [go_sem, hsl, hpl, hpg] <;> rfl) (by simp only [go_sem, hsl, hpl, hpg] <;> rfl) (by exact ⟨by first | exact WkR.pure rfl | exact WkR.nil _ | exact WkR.int (by omega), wkr_caps _ _ _⟩) (fr0) (by simp only [go_sem, hsl, hpl, hpg] <;> rfl) ?_
      refine Run.op (by simp only [go_sem, hsl, hpl, hpg] <;> rfl) (by simp only [go_sem] <;> rfl) ?_
      refine Run.op (by simp only [go_sem, hsl, hpl, hpg]; (try simp (disch := omega) only [if_pos]); (try simp only [go_sem, hsl, hpl, hpg]) <;> first | (refine ite_run ⟨by (try simp only [List.length_append, List.length_drop, List.length_take, List.length_map, List.length_cons, List.length_nil, List.length_replicate, List.length_set, List.length_range, Nat.zero_add]); omega, by (try simp only [List.length_append, List.length_drop, List.length_take, List.length_map, List.length_cons, List.length_nil, List.length_replicate, List.length_set, List.length_range, Nat.zero_add]); omega, by repeat (first | exact al_nil | assumption | refine al_app ?_ ?_ | refine al_drop ?_ | refine al_take ?_ | exact al_map (fun _ => rfl) | exact al_rep rfl | refine al_cons rfl ?_)⟩ ?_; simp only [go_sem, hsl, hpl, hpg] <;> rfl) | (refine ite_run ⟨by (try simp only [List.length_append, List.length_drop, List.length_take, List.length_map, List.length_cons, List.length_nil, List.length_replicate, List.length_set, List.length_range, Nat.zero_add]); omega, by repeat (first | exact al_nil | assumption | refine al_app ?_ ?_ | refine al_drop ?_ | refine al_take ?_ | exact al_map (fun _ => rfl) | exact al_rep rfl | refine al_cons rfl ?_)⟩ ?_; simp only [go_sem, hsl, hpl, hpg] <;> rfl) | rfl) (by simp only [go_sem] <;> rfl) ?_
      refine Run.op (by simp only [go_sem, hsl, hpl, hpg] <;> rfl) (by simp only [go_sem] <;> rfl) ?_
      refine Run.nil ?_
      refine BlkK.nrm ?_
      refine Exec.reg1 ?_
      refine Run.op (by simp only [go_sem, hsl, hpl, hpg]; (try simp (disch := omega) only [IntWalk.i64_in, IntWalk.u64_in, if_neg, if_pos])<;> rfl) (by simp only [go_sem] <;> rfl) ?_
      refine Run.op (by simp only [go_sem, hsl, hpl, hpg] <;> rfl) (by simp only [go_sem] <;> rfl) ?_
      refine Run.nil ?_
      refine ForK.nxt ?_ ?_ ?_
      · omega
      · exact Ghost.kp [2, 6, 13, 14, 15] [1000] (by simp only [go_sem, hsl, hpl, hpg]; first | ((repeat' (first | with_reducible_and_instances rfl | refine st_eq ?_ ?_ ?_ | refine ret_eq ?_ | refine tup_eq ?_ | refine tm_eq ?_ ?_ | refine arr_eq ?_ | refine cells_eq ?_ | refine val_eq ?_ | refine ls_eq ?_ ?_ | refine own_eq ?_ ?_ | refine sl_eq ?_ | refine b_eq ?_ | (refine i_eq ?_; omega))); (all_goals (simp [hsu, encInt]))) | rfl)
      · trivial
    · skip
      have hke : k = n.toNat := by have := of_decide_eq_false hb16; omega
      subst hke
      have hta : List.take (List.map c (placesD n.toNat t)).length (List.map encInt (List.map c (placesD n.toNat t))) = (List.map c (placesD n.toNat t)).map encInt := List.take_of_length_le (by simp)
      have hta2 : List.take n.toNat (List.map encInt (List.map c (placesD n.toNat t))) = List.map encInt (List.map c (placesD n.toNat t)) := List.take_of_length_le (by simp [places_len])
      refine Exec.exitS ?_
      refine ForK.ext ?_
      refine BlkK.hit ?_
      refine Exec.reg ?_
      refine Run.frz 1000 (by simp only [go_sem, hpl, hta2] <;> rfl) ?_
      iterate 2 (refine Run.op (by simp only [go_sem, hsl, hpl] <;> rfl) (by simp only [go_sem] <;> rfl) ?_)
      refine Run.nil ?_
      exact Ends.fin [] (rs := [.tmp 6]) rfl (by simp only [go_sem, hsl, hpl] <;> rfl) (by simp only [go_sem, hsl, hpl] <;> first | rfl | ((repeat' (first | with_reducible_and_instances rfl | refine st_eq ?_ ?_ ?_ | refine ret_eq ?_ | refine tup_eq ?_ | refine tm_eq ?_ ?_ | refine arr_eq ?_ | refine cells_eq ?_ | refine val_eq ?_ | refine ls_eq ?_ ?_ | refine own_eq ?_ ?_ | refine sl_eq ?_ | refine b_eq ?_ | (refine i_eq ?_; omega))); done))

set_option maxRecDepth 20000 in
set_option maxHeartbeats 2000000 in
/-- meterworks/meterworksref02.places -/
theorem c_meterworksref02_places (n : Int) (hn : 1 ≤ n ∧ n ≤ 6) (t : Int) (ht : 0 ≤ t ∧ t ≤ 2000000000) : Contract Try.prog 33 [.int n, .int t] (.leaf (.d (intsD (placesD n.toNat t)))) [] := by
  refine con_of follows_mixed Try.func33 rfl (by simp only [List.length_cons, List.length_nil, Try.ntmps33]; omega) (by kernel_rfl) rfl ?_
  refine Exec.reg ?_
  refine Run.op (by simp only [go_sem] <;> rfl) (by simp only [go_sem] <;> rfl) ?_
  refine Run.nil ?_
  refine Exec.reg ?_
  refine Run.op (by simp only [go_sem] <;> rfl) (by simp only [go_sem] <;> rfl) ?_
  refine Run.nil ?_
  refine Exec.assocS ?_
  refine Exec.reg ?_
  refine Run.nilo 5 1000 3 1 (by simp only [go_sem] <;> rfl) (by simp only [go_sem] <;> rfl) (by omega) (by omega) (by simp only [go_sem] <;> rfl) ?_
  refine Run.op (by simp only [go_sem] <;> rfl) (by simp only [go_sem] <;> rfl) ?_
  refine Run.nil ?_
  refine Exec.blk ?_
  refine Exec.forA [0, 1, 5, 6] [1000] (n.toNat) (fun k => [.slot 6 (.int k), .slot 5 (.leaf (.own 1000 0 (placesD k t).length (placesD k t).length)), .obj 1000 (.arr 3 1 ((placesD k t).map encInt))]) (fun _ => True) (fun k => by simp only [go_sem] <;> rfl) (by simp only [go_sem, Int.natCast_zero, places_zero] <;> rfl) ?_ (fun k hk hX => ?_)
  · trivial
  · skip
    refine Exec.assocS ?_
    refine Exec.reg ?_
    iterate 3 (refine Run.op (by simp only [go_sem] <;> rfl) (by simp only [go_sem] <;> rfl) ?_)
    refine Run.nil ?_
    refine Exec.cndS (by simp only [go_sem] <;> rfl) (fun hb9 => ?_) (fun hb9 => ?_)
    · skip
      have hlt : k < n.toNat := by have := of_decide_eq_true hb9; omega
      have hsu := places_succ k t
      have hlen := places_len k t
      refine Exec.skipS ?_
      refine Exec.blk ?_
      refine Exec.reg1 ?_
      iterate 3 (refine Run.op (by simp only [go_sem] <;> rfl) (by simp only [go_sem] <;> rfl) ?_)
      refine Run.cal (c_meterworksref02_Place k (by omega) t ht) (by simp only [go_sem]) (by simp only [go_sem] <;> rfl) (by exact ⟨by first | exact WkR.pure rfl | exact WkR.nil _ | exact WkR.int (by first | omega | (simp; done) | (simp; omega)), by first | exact WkR.pure rfl | exact WkR.nil _ | exact WkR.int (by first | omega | (simp; done) | (simp; omega)), trivial⟩) (fr0) (by simp only [go_sem] <;> rfl) ?_
      refine Run.op (by simp only [go_sem] <;> rfl) (by simp only [go_sem] <;> rfl) ?_
      refine Run.op (by simp only [go_sem]; (try simp (disch := omega) only [if_pos]); (try simp only [go_sem]) <;> first | (refine ite_run ⟨by (try simp only [List.length_append, List.length_drop, List.length_take, List.length_map, List.length_cons, List.length_nil, List.length_replicate, List.length_set, List.length_range, Nat.zero_add]); omega, by (try simp only [List.length_append, List.length_drop, List.length_take, List.length_map, List.length_cons, List.length_nil, List.length_replicate, List.length_set, List.length_range, Nat.zero_add]); omega, by repeat (first | exact al_nil | assumption | refine al_app ?_ ?_ | refine al_drop ?_ | refine al_take ?_ | exact al_map (fun _ => rfl) | exact al_rep rfl | refine al_cons rfl ?_)⟩ ?_; simp only [go_sem] <;> rfl) | (refine ite_run ⟨by (try simp only [List.length_append, List.length_drop, List.length_take, List.length_map, List.length_cons, List.length_nil, List.length_replicate, List.length_set, List.length_range, Nat.zero_add]); omega, by repeat (first | exact al_nil | assumption | refine al_app ?_ ?_ | refine al_drop ?_ | refine al_take ?_ | exact al_map (fun _ => rfl) | exact al_rep rfl | refine al_cons rfl ?_)⟩ ?_; simp only [go_sem] <;> rfl) | rfl) (by simp only [go_sem] <;> rfl) ?_
      refine Run.op (by simp only [go_sem] <;> rfl) (by simp only [go_sem] <;> rfl) ?_
      refine Run.nil ?_
      refine BlkK.nrm ?_
      refine Exec.reg1 ?_
      refine Run.op (by simp only [go_sem] <;> rfl) (by simp only [go_sem] <;> rfl) ?_
      refine Run.op (by simp only [go_sem]; (try simp (disch := omega) only [IntWalk.i64_in, IntWalk.u64_in, if_neg, if_pos])<;> rfl) (by simp only [go_sem] <;> rfl) ?_
      refine Run.op (by simp only [go_sem] <;> rfl) (by simp only [go_sem] <;> rfl) ?_
      refine Run.nil ?_
      refine ForK.nxt ?_ ?_ ?_
      · omega
      · exact Ghost.kp [0, 1, 5, 6] [1000] (by simp only [go_sem]; first | ((repeat' (first | with_reducible_and_instances rfl | refine st_eq ?_ ?_ ?_ | refine ret_eq ?_ | refine tup_eq ?_ | refine tm_eq ?_ ?_ | refine arr_eq ?_ | refine cells_eq ?_ | refine val_eq ?_ | refine ls_eq ?_ ?_ | refine own_eq ?_ ?_ | refine sl_eq ?_ | refine b_eq ?_ | (refine i_eq ?_; omega))); (all_goals (simp [hsu, encInt]))) | rfl)
      · trivial
    · skip
      have hke : k = n.toNat := by have := of_decide_eq_false hb9; omega
      subst hke
      have hta : List.take (placesD n.toNat t).length (List.map encInt (placesD n.toNat t)) = (placesD n.toNat t).map encInt := List.take_of_length_le (by simp)
      refine Exec.exitS ?_
      refine ForK.ext ?_
      refine BlkK.hit ?_
      refine Exec.reg ?_
      refine Run.frz 1000 (by simp only [go_sem, hta] <;> rfl) ?_
      iterate 2 (refine Run.op (by simp only [go_sem] <;> rfl) (by simp only [go_sem] <;> rfl) ?_)
      refine Run.nil ?_
      exact Ends.fin [] (rs := [.tmp 4]) rfl (by simp only [go_sem] <;> rfl) (by simp only [go_sem] <;> first | rfl | ((repeat' (first | with_reducible_and_instances rfl | refine st_eq ?_ ?_ ?_ | refine ret_eq ?_ | refine tup_eq ?_ | refine tm_eq ?_ ?_ | refine arr_eq ?_ | refine cells_eq ?_ | refine val_eq ?_ | refine ls_eq ?_ ?_ | refine own_eq ?_ ?_ | refine sl_eq ?_ | refine b_eq ?_ | (refine i_eq ?_; omega))); done))

set_option maxRecDepth 20000 in
/-- meterworks/meterworksref02.Places -/
theorem c_meterworksref02_Places (r : Reg) (t : Int) : Contract Try.prog 11 [regV r, .int t] (placesV (placesR r t)) [] := by
  refine con_of follows_mixed Try.func11 rfl (by simp only [List.length_cons, List.length_nil, Try.ntmps11]; omega) (by kernel_rfl) rfl ?_
  refine Exec.reg ?_
  iterate 3 (refine Run.op (by simp only [go_sem, placesR, if_false, if_true] <;> rfl) (by simp only [go_sem] <;> rfl) ?_)
  refine Run.nil ?_
  refine Exec.assocS ?_
  refine Exec.reg ?_
  refine Run.op (by simp only [go_sem, placesR, if_false, if_true] <;> rfl) (by simp only [go_sem] <;> rfl) ?_
  refine Run.cal (c_meterworksref02_Register r) (by simp only [go_sem]) (by simp only [go_sem, placesR, if_false, if_true] <;> rfl) (by exact ⟨by first | exact WkR.pure rfl | exact WkR.nil _ | exact WkR.int (by first | omega | (simp; done) | (simp; omega)), trivial⟩) (fr0) (by simp only [go_sem, placesR, if_false, if_true] <;> rfl) ?_
  refine Run.op (by simp only [go_sem, placesR, if_false, if_true] <;> rfl) (by simp only [go_sem] <;> rfl) ?_
  refine Run.nil ?_
  refine Exec.cndS (by simp only [go_sem, placesR, if_false, if_true] <;> rfl) (fun hb8 => ?_) (fun hb8 => ?_)
  · skip
    have hreg : regB r = false := by simpa using hb8
    refine Exec.assocS ?_
    refine Exec.reg ?_
    iterate 2 (refine Run.op (by simp only [go_sem, placesR, if_false, if_true, hreg] <;> rfl) (by simp only [go_sem] <;> rfl) ?_)
    refine Run.nild 4 1 (by simp only [go_sem] <;> rfl) (by simp only [go_sem] <;> rfl) ?_
    refine Run.nil ?_
    refine Exec.retS ?_
    exact Ends.fin [] (rs := [.tmp 4, .tmp 5]) rfl (by simp only [go_sem, placesR, if_false, if_true, hreg] <;> rfl) (by simp only [go_sem, placesR, if_false, if_true, hreg] <;> first | rfl | ((repeat' (first | with_reducible_and_instances rfl | refine st_eq ?_ ?_ ?_ | refine ret_eq ?_ | refine tup_eq ?_ | refine tm_eq ?_ ?_ | refine arr_eq ?_ | refine cells_eq ?_ | refine val_eq ?_ | refine ls_eq ?_ ?_ | refine own_eq ?_ ?_ | refine sl_eq ?_ | refine b_eq ?_ | (refine i_eq ?_; omega))); done))
  · skip
    have hreg : regB r = true := by simpa using hb8
    have hq := reg_iff.1 hreg
    have htb := turn_bnd hq.1.2
    have hrf : (regB r = false) = False := by simp [hreg]
    refine Exec.skipS ?_
    refine Exec.assocS ?_
    refine Exec.reg ?_
    iterate 3 (refine Run.op (by simp only [go_sem, placesR, if_false, if_true, hrf] <;> rfl) (by simp only [go_sem] <;> rfl) ?_)
    refine Run.cal (c_meterworksref02_Turn r.drums (by omega)) (by simp only [go_sem]) (by simp only [go_sem, placesR, if_false, if_true, hrf] <;> rfl) (by exact ⟨by first | exact WkR.pure rfl | exact WkR.nil _ | exact WkR.int (by first | omega | (simp; done) | (simp; omega)), trivial⟩) (fr0) (by simp only [go_sem, placesR, if_false, if_true, hrf] <;> rfl) ?_
    refine Run.op (by simp only [go_sem, placesR, if_false, if_true, hrf]; (try simp (disch := omega) only [IntWalk.i64_in, IntWalk.u64_in, if_neg, if_pos])<;> rfl) (by simp only [go_sem] <;> rfl) ?_
    refine Run.cal (c_meterworksref02_in _ _ _) (by simp only [go_sem]) (by simp only [go_sem, placesR, if_false, if_true, hrf] <;> rfl) (by exact ⟨by first | exact WkR.pure rfl | exact WkR.nil _ | exact WkR.int (by first | omega | (simp; done) | (simp; omega)), by first | exact WkR.pure rfl | exact WkR.nil _ | exact WkR.int (by first | omega | (simp; done) | (simp; omega)), by first | exact WkR.pure rfl | exact WkR.nil _ | exact WkR.int (by first | omega | (simp; done) | (simp; omega)), trivial⟩) (fr0) (by simp only [go_sem, placesR, if_false, if_true, hrf] <;> rfl) ?_
    refine Run.op (by simp only [go_sem, placesR, if_false, if_true, hrf] <;> rfl) (by simp only [go_sem] <;> rfl) ?_
    refine Run.nil ?_
    refine Exec.cndS (by simp only [go_sem, placesR, if_false, if_true, hrf] <;> rfl) (fun hb15 => ?_) (fun hb15 => ?_)
    · skip
      have hin : inD t 0 (turnD r.drums - 1) = false := by simpa using hb15
      refine Exec.assocS ?_
      refine Exec.reg ?_
      iterate 2 (refine Run.op (by simp only [go_sem, placesR, if_false, if_true, hrf, hin] <;> rfl) (by simp only [go_sem] <;> rfl) ?_)
      refine Run.nild 4 1 (by simp only [go_sem] <;> rfl) (by simp only [go_sem] <;> rfl) ?_
      refine Run.nil ?_
      refine Exec.retS ?_
      exact Ends.fin [] (rs := [.tmp 4, .tmp 5]) rfl (by simp only [go_sem, placesR, if_false, if_true, hrf, hin] <;> rfl) (by simp only [go_sem, placesR, if_false, if_true, hrf, hin] <;> first | rfl | ((repeat' (first | with_reducible_and_instances rfl | refine st_eq ?_ ?_ ?_ | refine ret_eq ?_ | refine tup_eq ?_ | refine tm_eq ?_ ?_ | refine arr_eq ?_ | refine cells_eq ?_ | refine val_eq ?_ | refine ls_eq ?_ ?_ | refine own_eq ?_ ?_ | refine sl_eq ?_ | refine b_eq ?_ | (refine i_eq ?_; omega))); done))
    · skip
      have hin : inD t 0 (turnD r.drums - 1) = true := by simpa using hb15
      have hin2 := inD_iff.1 hin
      have hif : (inD t 0 (turnD r.drums - 1) = false) = False := by simp [hin]
      refine Exec.skipS ?_
      refine Exec.reg ?_
      iterate 3 (refine Run.op (by simp only [go_sem, placesR, if_false, if_true, hrf, hif, List.map_id'] <;> rfl) (by simp only [go_sem] <;> rfl) ?_)
      refine Run.cal (c_meterworksref02_places r.drums (by omega) t (by omega)) (by simp only [go_sem]) (by simp only [go_sem, placesR, if_false, if_true, hrf, hif, List.map_id'] <;> rfl) (by exact ⟨by first | exact WkR.pure rfl | exact WkR.nil _ | exact WkR.int (by first | omega | (simp; done) | (simp; omega)), by first | exact WkR.pure rfl | exact WkR.nil _ | exact WkR.int (by first | omega | (simp; done) | (simp; omega)), trivial⟩) (fr0) (by simp only [go_sem, placesR, if_false, if_true, hrf, hif, List.map_id'] <;> rfl) ?_
      iterate 2 (refine Run.op (by simp only [go_sem, placesR, if_false, if_true, hrf, hif, List.map_id'] <;> rfl) (by simp only [go_sem] <;> rfl) ?_)
      refine Run.nil ?_
      exact Ends.fin [] (rs := [.tmp 4, .tmp 5]) rfl (by simp only [go_sem, placesR, if_false, if_true, hrf, hif, List.map_id'] <;> rfl) (by simp only [go_sem, placesR, if_false, if_true, hrf, hif, List.map_id'] <;> first | rfl | ((repeat' (first | with_reducible_and_instances rfl | refine st_eq ?_ ?_ ?_ | refine ret_eq ?_ | refine tup_eq ?_ | refine tm_eq ?_ ?_ | refine arr_eq ?_ | refine cells_eq ?_ | refine val_eq ?_ | refine ls_eq ?_ ?_ | refine own_eq ?_ ?_ | refine sl_eq ?_ | refine b_eq ?_ | (refine i_eq ?_; omega))); done))

set_option maxRecDepth 20000 in
/-- meterworks/drum.Places -/
theorem c_drum_Places (r : Reg) (t : Int) : Contract Try.prog 10 [regV r, .int t] (placesV (placesR r t)) [] := by
  refine con_of follows_mixed Try.func10 rfl (by simp only [List.length_cons, List.length_nil, Try.ntmps10]; omega) (by kernel_rfl) rfl ?_
  refine Exec.reg ?_
  iterate 3 (refine Run.op (by simp only [go_sem, placesR, if_false, if_true] <;> rfl) (by simp only [go_sem] <;> rfl) ?_)
  refine Run.nil ?_
  refine Exec.blk ?_
  refine Exec.reg ?_
  refine Run.op (by simp only [go_sem, placesR, if_false, if_true] <;> rfl) (by simp only [go_sem] <;> rfl) ?_
  refine Run.cal (c_drum_isRegister r) (by simp only [go_sem]) (by simp only [go_sem, placesR, if_false, if_true] <;> rfl) (by exact ⟨by first | exact WkR.pure rfl | exact WkR.nil _ | exact WkR.int (by first | omega | (simp; done) | (simp; omega)), trivial⟩) (fr0) (by simp only [go_sem, placesR, if_false, if_true] <;> rfl) ?_
  iterate 2 (refine Run.op (by simp only [go_sem, placesR, if_false, if_true] <;> rfl) (by simp only [go_sem] <;> rfl) ?_)
  refine Run.nil ?_
  refine Exec.cnd (by simp only [go_sem, placesR, if_false, if_true] <;> rfl) (fun hb6 => ?_) (fun hb6 => ?_)
  · skip
    have hreg : regB r = false := by simpa using hb6
    refine Exec.reg ?_
    iterate 2 (refine Run.op (by simp only [go_sem, placesR, if_false, if_true, hreg] <;> rfl) (by simp only [go_sem] <;> rfl) ?_)
    refine Run.nild 4 1 (by simp only [go_sem] <;> rfl) (by simp only [go_sem] <;> rfl) ?_
    refine Run.nil ?_
    refine BlkK.ret ?_
    exact Ends.fin [] (rs := [.tmp 4, .tmp 5]) rfl (by simp only [go_sem, placesR, if_false, if_true, hreg] <;> rfl) (by simp only [go_sem, placesR, if_false, if_true, hreg] <;> first | rfl | ((repeat' (first | with_reducible_and_instances rfl | refine st_eq ?_ ?_ ?_ | refine ret_eq ?_ | refine tup_eq ?_ | refine tm_eq ?_ ?_ | refine arr_eq ?_ | refine cells_eq ?_ | refine val_eq ?_ | refine ls_eq ?_ ?_ | refine own_eq ?_ ?_ | refine sl_eq ?_ | refine b_eq ?_ | (refine i_eq ?_; omega))); done))
  · skip
    have hreg : regB r = true := by simpa using hb6
    have hq := reg_iff.1 hreg
    have htb := turn_bnd hq.1.2
    have hrf : (regB r = false) = False := by simp [hreg]
    refine Exec.reg ?_
    iterate 3 (refine Run.op (by simp only [go_sem, placesR, if_false, if_true, hrf] <;> rfl) (by simp only [go_sem] <;> rfl) ?_)
    refine Run.cal (c_drum_turnOf r.drums (by omega)) (by simp only [go_sem]) (by simp only [go_sem, placesR, if_false, if_true, hrf] <;> rfl) (by exact ⟨by first | exact WkR.pure rfl | exact WkR.nil _ | exact WkR.int (by first | omega | (simp; done) | (simp; omega)), trivial⟩) (fr0) (by simp only [go_sem, placesR, if_false, if_true, hrf] <;> rfl) ?_
    refine Run.op (by simp only [go_sem, placesR, if_false, if_true, hrf]; (try simp (disch := omega) only [IntWalk.i64_in, IntWalk.u64_in, if_neg, if_pos])<;> rfl) (by simp only [go_sem] <;> rfl) ?_
    refine Run.cal (c_drum_within _ _ _) (by simp only [go_sem]) (by simp only [go_sem, placesR, if_false, if_true, hrf] <;> rfl) (by exact ⟨by first | exact WkR.pure rfl | exact WkR.nil _ | exact WkR.int (by first | omega | (simp; done) | (simp; omega)), by first | exact WkR.pure rfl | exact WkR.nil _ | exact WkR.int (by first | omega | (simp; done) | (simp; omega)), by first | exact WkR.pure rfl | exact WkR.nil _ | exact WkR.int (by first | omega | (simp; done) | (simp; omega)), trivial⟩) (fr0) (by simp only [go_sem, placesR, if_false, if_true, hrf] <;> rfl) ?_
    iterate 2 (refine Run.op (by simp only [go_sem, placesR, if_false, if_true, hrf] <;> rfl) (by simp only [go_sem] <;> rfl) ?_)
    refine Run.nil ?_
    refine Exec.cnd (by simp only [go_sem, placesR, if_false, if_true, hrf] <;> rfl) (fun hb10 => ?_) (fun hb10 => ?_)
    · skip
      have hin : inD t 0 (turnD r.drums - 1) = false := by simpa using hb10
      refine Exec.reg ?_
      iterate 2 (refine Run.op (by simp only [go_sem, placesR, if_false, if_true, hrf, hin] <;> rfl) (by simp only [go_sem] <;> rfl) ?_)
      refine Run.nild 4 1 (by simp only [go_sem] <;> rfl) (by simp only [go_sem] <;> rfl) ?_
      refine Run.nil ?_
      refine BlkK.ret ?_
      exact Ends.fin [] (rs := [.tmp 4, .tmp 5]) rfl (by simp only [go_sem, placesR, if_false, if_true, hrf, hin] <;> rfl) (by simp only [go_sem, placesR, if_false, if_true, hrf, hin] <;> first | rfl | ((repeat' (first | with_reducible_and_instances rfl | refine st_eq ?_ ?_ ?_ | refine ret_eq ?_ | refine tup_eq ?_ | refine tm_eq ?_ ?_ | refine arr_eq ?_ | refine cells_eq ?_ | refine val_eq ?_ | refine ls_eq ?_ ?_ | refine own_eq ?_ ?_ | refine sl_eq ?_ | refine b_eq ?_ | (refine i_eq ?_; omega))); done))
    · skip
      have hin : inD t 0 (turnD r.drums - 1) = true := by simpa using hb10
      have hin2 := inD_iff.1 hin
      have hif : (inD t 0 (turnD r.drums - 1) = false) = False := by simp [hin]
      refine BlkK.nrm ?_
      refine Exec.reg ?_
      iterate 3 (refine Run.op (by simp only [go_sem, placesR, if_false, if_true, hrf, hif, List.map_id'] <;> rfl) (by simp only [go_sem] <;> rfl) ?_)
      refine Run.cal (c_drum_list r.drums (by omega) t (by omega) (ds := []) (fun p => p) (by simp only [go_sem]) (fun p _ => c_drum_place_number p)) (by simp only [go_sem]) (by simp only [go_sem, placesR, if_false, if_true, hrf, hif, List.map_id'] <;> rfl) (by exact ⟨by first | exact WkR.pure rfl | exact WkR.nil _ | exact WkR.int (by first | omega | (simp; done) | (simp; omega)), by first | exact WkR.pure rfl | exact WkR.nil _ | exact WkR.int (by first | omega | (simp; done) | (simp; omega)), by first | exact WkR.pure rfl | exact WkR.nil _ | exact WkR.int (by first | omega | (simp; done) | (simp; omega)), trivial⟩) (fr0) (by simp only [go_sem, placesR, if_false, if_true, hrf, hif, List.map_id'] <;> rfl) ?_
      iterate 2 (refine Run.op (by simp only [go_sem, placesR, if_false, if_true, hrf, hif, List.map_id'] <;> rfl) (by simp only [go_sem] <;> rfl) ?_)
      refine Run.nil ?_
      exact Ends.fin [] (rs := [.tmp 4, .tmp 5]) rfl (by simp only [go_sem, placesR, if_false, if_true, hrf, hif, List.map_id'] <;> rfl) (by simp only [go_sem, placesR, if_false, if_true, hrf, hif, List.map_id'] <;> first | rfl | ((repeat' (first | with_reducible_and_instances rfl | refine st_eq ?_ ?_ ?_ | refine ret_eq ?_ | refine tup_eq ?_ | refine tm_eq ?_ ?_ | refine arr_eq ?_ | refine cells_eq ?_ | refine val_eq ?_ | refine ls_eq ?_ ?_ | refine own_eq ?_ ?_ | refine sl_eq ?_ | refine b_eq ?_ | (refine i_eq ?_; omega))); done))

end Go.Mw
namespace Go.Mw
open Go.Proofs
open Go.Dr
theorem int_eq {a b : Int} (h : (a != b) = false) : a = b := by simpa using h
theorem span_eq {a b : Go.Dr.Span} (h : (!(a.lo == b.lo && a.hi == b.hi)) = false) : a = b := by
  obtain ⟨a1, a2⟩ := a
  obtain ⟨b1, b2⟩ := b
  simp at h
  obtain ⟨rfl, rfl⟩ := h
  rfl
set_option maxRecDepth 20000 in
/-- slices.IndexFunc[[]int,int] -/
theorem c_IndexFunc_int {g : FuncId} {ds : List D} (p : Int → Bool) (hg : canCall Try.prog g = true) (hp : ∀ s, Contract Try.prog g (.int s :: ds.map fun x => .leaf (.d x)) (.bool (p s)) []) (l : List Int) (hl : l.length ≤ 1000) : Contract Try.prog 51 [.leaf (.d (.sl 1 (l.map encInt))), .leaf (.d (.fn g ds))] (.int (idxI (l.findIdx? p))) [] := by
  refine con_of follows_mixed Try.func51 rfl (by simp only [List.length_cons, List.length_nil, Try.ntmps51]; omega) (by kernel_rfl) rfl ?_
  refine Exec.reg ?_
  refine Run.op (by simp only [go_sem] <;> rfl) (by simp only [go_sem] <;> rfl) ?_
  refine Run.nil ?_
  refine Exec.assocS ?_
  refine Exec.reg ?_
  iterate 3 (refine Run.op (by simp only [go_sem] <;> rfl) (by simp only [go_sem] <;> rfl) ?_)
  refine Run.nil ?_
  refine Exec.blk ?_
  refine Exec.forA [0, 1, 7, 8] [] (l.length) (fun k => [.slot 8 (.int k)]) (fun k => (l.take k).any p = false) (fun k => by simp only [go_sem] <;> rfl) (by simp only [go_sem] <;> rfl) ?_ (fun k hk hX => ?_)
  · rfl
  · skip
    refine Exec.reg ?_
    refine Run.op (by simp only [go_sem] <;> rfl) (by simp only [go_sem] <;> rfl) ?_
    refine Run.nil ?_
    refine Exec.cndS (by simp only [go_sem] <;> rfl) (fun hb9 => ?_) (fun hb9 => ?_)
    · skip
      have hlt := lt_of_dec hb9
      obtain ⟨s, hs⟩ := elem_of hb9
      refine Exec.skipS ?_
      refine Exec.blk ?_
      refine Exec.reg ?_
      iterate 2 (refine Run.op (by simp only [go_sem, hs] <;> rfl) (by simp only [go_sem] <;> rfl) ?_)
      refine Run.nil ?_
      refine Exec.reg ?_
      iterate 3 (refine Run.op (by simp only [go_sem, hs] <;> rfl) (by simp only [go_sem] <;> rfl) ?_)
      refine Run.op (by simp only [go_sem, hs]; (try simp (disch := omega) only [if_pos]); (try simp only [go_sem, hs])<;> rfl) (by simp only [go_sem] <;> rfl) ?_
      refine Run.op (by simp only [go_sem, hs] <;> rfl) (by simp only [go_sem] <;> rfl) ?_
      refine Run.calw (by simp only [go_sem] <;> rfl) (hp s) (by assumption) (by simp only [go_sem, hs] <;> rfl) (by simp only [go_sem, hs] <;> rfl) (by exact ⟨by first | exact WkR.pure rfl | exact WkR.nil _ | exact WkR.int (by omega), wkr_caps _ _ _⟩) (fr0) (by simp only [go_sem, hs] <;> rfl) ?_
      refine Run.nil ?_
      refine Exec.cnd (by simp only [go_sem, hs] <;> rfl) (fun hb16 => ?_) (fun hb16 => ?_)
      · skip
        have hr := find_at hX hs hb16
        refine Exec.reg ?_
        iterate 2 (refine Run.op (by simp only [go_sem, hs, hr, idxI] <;> rfl) (by simp only [go_sem] <;> rfl) ?_)
        refine Run.nil ?_
        refine BlkK.ret ?_
        refine ForK.ret ?_
        refine BlkK.ret ?_
        exact Ends.fin [] (rs := [.tmp 4]) rfl (by simp only [go_sem, hs, hr, idxI] <;> rfl) (by simp only [go_sem, hs, hr, idxI] <;> first | rfl | ((repeat' (first | with_reducible_and_instances rfl | refine st_eq ?_ ?_ ?_ | refine ret_eq ?_ | refine tup_eq ?_ | refine tm_eq ?_ ?_ | refine arr_eq ?_ | refine cells_eq ?_ | refine val_eq ?_ | refine ls_eq ?_ ?_ | refine own_eq ?_ ?_ | refine sl_eq ?_ | refine b_eq ?_ | (refine i_eq ?_; omega))); done))
      · skip
        refine BlkK.nrm ?_
        refine Exec.reg1 ?_
        refine Run.op (by simp only [go_sem, hs]; (try simp (disch := omega) only [IntWalk.i64_in, IntWalk.u64_in, if_neg, if_pos])<;> rfl) (by simp only [go_sem] <;> rfl) ?_
        refine Run.op (by simp only [go_sem, hs] <;> rfl) (by simp only [go_sem] <;> rfl) ?_
        refine Run.nil ?_
        refine ForK.nxt ?_ ?_ ?_
        · omega
        · exact Ghost.kp [0, 1, 7, 8] [] (by simp only [go_sem, hs]; first | ((repeat' (first | with_reducible_and_instances rfl | refine st_eq ?_ ?_ ?_ | refine ret_eq ?_ | refine tup_eq ?_ | refine tm_eq ?_ ?_ | refine arr_eq ?_ | refine cells_eq ?_ | refine val_eq ?_ | refine ls_eq ?_ ?_ | refine own_eq ?_ ?_ | refine sl_eq ?_ | refine b_eq ?_ | (refine i_eq ?_; omega))); done) | rfl)
        · exact any_step hX hs hb16
    · skip
      have hr := find_none hX (ge_of_dec hb9)
      refine Exec.exitS ?_
      refine ForK.ext ?_
      refine BlkK.hit ?_
      refine Exec.reg ?_
      refine Run.op (by simp only [go_sem, hr, idxI] <;> rfl) (by simp only [go_sem] <;> rfl) ?_
      refine Run.nil ?_
      exact Ends.fin [] (rs := [.tmp 4]) rfl (by simp only [go_sem, hr, idxI] <;> rfl) (by simp only [go_sem, hr, idxI] <;> first | rfl | ((repeat' (first | with_reducible_and_instances rfl | refine st_eq ?_ ?_ ?_ | refine ret_eq ?_ | refine tup_eq ?_ | refine tm_eq ?_ ?_ | refine arr_eq ?_ | refine cells_eq ?_ | refine val_eq ?_ | refine ls_eq ?_ ?_ | refine own_eq ?_ ?_ | refine sl_eq ?_ | refine b_eq ?_ | (refine i_eq ?_; omega))); done))

set_option maxRecDepth 20000 in
/-- slices.ContainsFunc[[]int,int] -/
theorem c_ContainsFunc_int {g : FuncId} {ds : List D} (p : Int → Bool) (hg : canCall Try.prog g = true) (hp : ∀ s, Contract Try.prog g (.int s :: ds.map fun x => .leaf (.d x)) (.bool (p s)) []) (l : List Int) (hl : l.length ≤ 1000) : Contract Try.prog 41 [.leaf (.d (.sl 1 (l.map encInt))), .leaf (.d (.fn g ds))] (.bool (l.any p)) [] := by
  refine con_of follows_mixed Try.func41 rfl (by simp only [List.length_cons, List.length_nil, Try.ntmps41]; omega) (by kernel_rfl) rfl ?_
  refine Exec.reg ?_
  refine Run.op (by simp only [go_sem, idxI_ge, find_any] <;> rfl) (by simp only [go_sem] <;> rfl) ?_
  refine Run.nil ?_
  refine Exec.reg ?_
  iterate 2 (refine Run.op (by simp only [go_sem, idxI_ge, find_any] <;> rfl) (by simp only [go_sem] <;> rfl) ?_)
  refine Run.cal (c_IndexFunc_int p hg hp l hl) (by simp only [go_sem]) (by simp only [go_sem, idxI_ge, find_any] <;> rfl) (by exact ⟨by first | exact WkR.pure rfl | exact WkR.nil _ | exact WkR.int (by first | omega | (simp; done) | (simp; omega)), by first | exact WkR.pure rfl | exact WkR.nil _ | exact WkR.int (by first | omega | (simp; done) | (simp; omega)), trivial⟩) (fr0) (by simp only [go_sem, idxI_ge, find_any] <;> rfl) ?_
  iterate 2 (refine Run.op (by simp only [go_sem, idxI_ge, find_any] <;> rfl) (by simp only [go_sem] <;> rfl) ?_)
  refine Run.nil ?_
  exact Ends.fin [] (rs := [.tmp 4]) rfl (by simp only [go_sem, idxI_ge, find_any] <;> rfl) (by simp only [go_sem, idxI_ge, find_any] <;> first | rfl | ((repeat' (first | with_reducible_and_instances rfl | refine st_eq ?_ ?_ ?_ | refine ret_eq ?_ | refine tup_eq ?_ | refine tm_eq ?_ ?_ | refine arr_eq ?_ | refine cells_eq ?_ | refine val_eq ?_ | refine ls_eq ?_ ?_ | refine own_eq ?_ ?_ | refine sl_eq ?_ | refine b_eq ?_ | (refine i_eq ?_; omega))); done))

set_option maxRecDepth 20000 in
/-- meterworks/drum.check_1 -/
theorem c_check_1 (s : Int) : Contract Try.prog 50 [.int s] (.bool (!inD s (-1099511627776) 1099511627776)) [] := by
  refine con_of follows_mixed Try.func50 rfl (by simp only [List.length_cons, List.length_nil, Try.ntmps50]; omega) (by kernel_rfl) rfl ?_
  refine Exec.reg ?_
  refine Run.op (by simp only [go_sem] <;> rfl) (by simp only [go_sem] <;> rfl) ?_
  refine Run.nil ?_
  refine Exec.reg ?_
  refine Run.op (by simp only [go_sem] <;> rfl) (by simp only [go_sem] <;> rfl) ?_
  refine Run.cal (c_drum_within _ _ _) (by simp only [go_sem]) (by simp only [go_sem] <;> rfl) (by exact ⟨by first | exact WkR.pure rfl | exact WkR.nil _ | exact WkR.int (by first | omega | (simp; done) | (simp; omega)), by first | exact WkR.pure rfl | exact WkR.nil _ | exact WkR.int (by first | omega | (simp; done) | (simp; omega)), by first | exact WkR.pure rfl | exact WkR.nil _ | exact WkR.int (by first | omega | (simp; done) | (simp; omega)), trivial⟩) (fr0) (by simp only [go_sem] <;> rfl) ?_
  iterate 2 (refine Run.op (by simp only [go_sem] <;> rfl) (by simp only [go_sem] <;> rfl) ?_)
  refine Run.nil ?_
  exact Ends.fin [] (rs := [.tmp 2]) rfl (by simp only [go_sem] <;> rfl) (by simp only [go_sem] <;> first | rfl | ((repeat' (first | with_reducible_and_instances rfl | refine st_eq ?_ ?_ ?_ | refine ret_eq ?_ | refine tup_eq ?_ | refine tm_eq ?_ ?_ | refine arr_eq ?_ | refine cells_eq ?_ | refine val_eq ?_ | refine ls_eq ?_ ?_ | refine own_eq ?_ ?_ | refine sl_eq ?_ | refine b_eq ?_ | (refine i_eq ?_; omega))); done))

set_option maxRecDepth 20000 in
/-- meterworks/drum.Fit_1 -/
theorem c_Fit_1 (s : Int) : Contract Try.prog 42 [.int s] (.bool (!inD s 0 9)) [] := by
  refine con_of follows_mixed Try.func42 rfl (by simp only [List.length_cons, List.length_nil, Try.ntmps42]; omega) (by kernel_rfl) rfl ?_
  refine Exec.reg ?_
  refine Run.op (by simp only [go_sem] <;> rfl) (by simp only [go_sem] <;> rfl) ?_
  refine Run.nil ?_
  refine Exec.reg ?_
  refine Run.op (by simp only [go_sem] <;> rfl) (by simp only [go_sem] <;> rfl) ?_
  refine Run.cal (c_drum_within _ _ _) (by simp only [go_sem]) (by simp only [go_sem] <;> rfl) (by exact ⟨by first | exact WkR.pure rfl | exact WkR.nil _ | exact WkR.int (by first | omega | (simp; done) | (simp; omega)), by first | exact WkR.pure rfl | exact WkR.nil _ | exact WkR.int (by first | omega | (simp; done) | (simp; omega)), by first | exact WkR.pure rfl | exact WkR.nil _ | exact WkR.int (by first | omega | (simp; done) | (simp; omega)), trivial⟩) (fr0) (by simp only [go_sem] <;> rfl) ?_
  iterate 2 (refine Run.op (by simp only [go_sem] <;> rfl) (by simp only [go_sem] <;> rfl) ?_)
  refine Run.nil ?_
  exact Ends.fin [] (rs := [.tmp 2]) rfl (by simp only [go_sem] <;> rfl) (by simp only [go_sem] <;> first | rfl | ((repeat' (first | with_reducible_and_instances rfl | refine st_eq ?_ ?_ ?_ | refine ret_eq ?_ | refine tup_eq ?_ | refine tm_eq ?_ ?_ | refine arr_eq ?_ | refine cells_eq ?_ | refine val_eq ?_ | refine ls_eq ?_ ?_ | refine own_eq ?_ ?_ | refine sl_eq ?_ | refine b_eq ?_ | (refine i_eq ?_; omega))); done))

theorem any_all {p : Int → Bool} (l : List Int) : l.any (fun s => !p s) = !l.all p := by rw [List.not_all_eq_any_not]
set_option maxRecDepth 20000 in
/-- meterworks/drum.check -/
theorem c_drum_check (r : Reg) (l : List Int) (hl : l.length ≤ 1000) : Contract Try.prog 34 [regV r, .leaf (.d (intsD l))] (.int (errD r l)) [] := by
  refine con_of follows_mixed Try.func34 rfl (by simp only [List.length_cons, List.length_nil, Try.ntmps34]; omega) (by kernel_rfl) rfl ?_
  refine Exec.reg ?_
  iterate 2 (refine Run.op (by simp only [go_sem, errD, if_false, if_true] <;> rfl) (by simp only [go_sem] <;> rfl) ?_)
  refine Run.nil ?_
  refine Exec.blk ?_
  refine Exec.reg ?_
  refine Run.op (by simp only [go_sem, errD, if_false, if_true] <;> rfl) (by simp only [go_sem] <;> rfl) ?_
  refine Run.cal (c_drum_isRegister r) (by simp only [go_sem]) (by simp only [go_sem, errD, if_false, if_true] <;> rfl) (by exact ⟨by first | exact WkR.pure rfl | exact WkR.nil _ | exact WkR.int (by first | omega | (simp; done) | (simp; omega)), trivial⟩) (fr0) (by simp only [go_sem, errD, if_false, if_true] <;> rfl) ?_
  iterate 2 (refine Run.op (by simp only [go_sem, errD, if_false, if_true] <;> rfl) (by simp only [go_sem] <;> rfl) ?_)
  refine Run.nil ?_
  refine Exec.cnd (by simp only [go_sem, errD, if_false, if_true] <;> rfl) (fun hb5 => ?_) (fun hb5 => ?_)
  · skip
    have hreg : regB r = false := by simpa using hb5
    refine Exec.reg ?_
    refine Run.op (by simp only [go_sem, errD, if_false, if_true, hreg] <;> rfl) (by simp only [go_sem] <;> rfl) ?_
    refine Run.nil ?_
    refine BlkK.ret ?_
    exact Ends.fin [] (rs := [.tmp 4]) rfl (by simp only [go_sem, errD, if_false, if_true, hreg] <;> rfl) (by simp only [go_sem, errD, if_false, if_true, hreg] <;> first | rfl | ((repeat' (first | with_reducible_and_instances rfl | refine st_eq ?_ ?_ ?_ | refine ret_eq ?_ | refine tup_eq ?_ | refine tm_eq ?_ ?_ | refine arr_eq ?_ | refine cells_eq ?_ | refine val_eq ?_ | refine ls_eq ?_ ?_ | refine own_eq ?_ ?_ | refine sl_eq ?_ | refine b_eq ?_ | (refine i_eq ?_; omega))); done))
  · skip
    have hreg : regB r = true := by simpa using hb5
    have hrf : (regB r = false) = False := by simp [hreg]
    refine Exec.reg ?_
    iterate 4 (refine Run.op (by simp only [go_sem, errD, if_false, if_true, hrf] <;> rfl) (by simp only [go_sem] <;> rfl) ?_)
    refine Run.nil ?_
    refine Exec.cnd (by simp only [go_sem, errD, if_false, if_true, hrf] <;> rfl) (fun hb9 => ?_) (fun hb9 => ?_)
    · skip
      have hlen : ((32 : Int) < (l.length : Int)) = True := by have := of_decide_eq_true hb9; simp; omega
      refine Exec.reg ?_
      refine Run.op (by simp only [go_sem, errD, if_false, if_true, hrf, hlen] <;> rfl) (by simp only [go_sem] <;> rfl) ?_
      refine Run.nil ?_
      refine BlkK.ret ?_
      exact Ends.fin [] (rs := [.tmp 4]) rfl (by simp only [go_sem, errD, if_false, if_true, hrf, hlen] <;> rfl) (by simp only [go_sem, errD, if_false, if_true, hrf, hlen] <;> first | rfl | ((repeat' (first | with_reducible_and_instances rfl | refine st_eq ?_ ?_ ?_ | refine ret_eq ?_ | refine tup_eq ?_ | refine tm_eq ?_ ?_ | refine arr_eq ?_ | refine cells_eq ?_ | refine val_eq ?_ | refine ls_eq ?_ ?_ | refine own_eq ?_ ?_ | refine sl_eq ?_ | refine b_eq ?_ | (refine i_eq ?_; omega))); done))
    · skip
      have hlen : ((32 : Int) < (l.length : Int)) = False := by have := of_decide_eq_false hb9; simp; omega
      have hal := any_all (p := fun s => inD s (-1099511627776) 1099511627776) l
      refine Exec.reg ?_
      refine Run.op (by simp only [go_sem, errD, if_false, if_true, hrf, hlen, hal] <;> rfl) (by simp only [go_sem] <;> rfl) ?_
      refine Run.cal (c_ContainsFunc_int (fun s => !inD s (-1099511627776) 1099511627776) (ds := []) (by simp only [go_sem]) c_check_1 l hl) (by simp only [go_sem]) (by simp only [go_sem, errD, if_false, if_true, hrf, hlen, hal] <;> rfl) (by exact ⟨by first | exact WkR.pure rfl | exact WkR.nil _ | exact WkR.int (by first | omega | (simp; done) | (simp; omega)), by first | exact WkR.pure rfl | exact WkR.nil _ | exact WkR.int (by first | omega | (simp; done) | (simp; omega)), trivial⟩) (fr0) (by simp only [go_sem, errD, if_false, if_true, hrf, hlen, hal] <;> rfl) ?_
      refine Run.op (by simp only [go_sem, errD, if_false, if_true, hrf, hlen, hal] <;> rfl) (by simp only [go_sem] <;> rfl) ?_
      refine Run.nil ?_
      refine Exec.cnd (by simp only [go_sem, errD, if_false, if_true, hrf, hlen, hal] <;> rfl) (fun hb13 => ?_) (fun hb13 => ?_)
      · skip
        have ha : l.all (fun n => inD n (-1099511627776) 1099511627776) = false := by simpa using hb13
        refine Exec.reg ?_
        refine Run.op (by simp only [go_sem, errD, if_false, if_true, hrf, hlen, hal, ha] <;> rfl) (by simp only [go_sem] <;> rfl) ?_
        refine Run.nil ?_
        refine BlkK.ret ?_
        exact Ends.fin [] (rs := [.tmp 4]) rfl (by simp only [go_sem, errD, if_false, if_true, hrf, hlen, hal, ha] <;> rfl) (by simp only [go_sem, errD, if_false, if_true, hrf, hlen, hal, ha] <;> first | rfl | ((repeat' (first | with_reducible_and_instances rfl | refine st_eq ?_ ?_ ?_ | refine ret_eq ?_ | refine tup_eq ?_ | refine tm_eq ?_ ?_ | refine arr_eq ?_ | refine cells_eq ?_ | refine val_eq ?_ | refine ls_eq ?_ ?_ | refine own_eq ?_ ?_ | refine sl_eq ?_ | refine b_eq ?_ | (refine i_eq ?_; omega))); done))
      · skip
        have ha : (l.all (fun n => inD n (-1099511627776) 1099511627776) = false) = False := by simpa using hb13
        refine BlkK.nrm ?_
        refine Exec.reg ?_
        refine Run.op (by simp only [go_sem, errD, if_false, if_true, hrf, hlen, hal, ha] <;> rfl) (by simp only [go_sem] <;> rfl) ?_
        refine Run.nil ?_
        exact Ends.fin [] (rs := [.tmp 4]) rfl (by simp only [go_sem, errD, if_false, if_true, hrf, hlen, hal, ha] <;> rfl) (by simp only [go_sem, errD, if_false, if_true, hrf, hlen, hal, ha] <;> first | rfl | ((repeat' (first | with_reducible_and_instances rfl | refine st_eq ?_ ?_ ?_ | refine ret_eq ?_ | refine tup_eq ?_ | refine tm_eq ?_ ?_ | refine arr_eq ?_ | refine cells_eq ?_ | refine val_eq ?_ | refine ls_eq ?_ ?_ | refine own_eq ?_ ?_ | refine sl_eq ?_ | refine b_eq ?_ | (refine i_eq ?_; omega))); done))

set_option maxRecDepth 20000 in
/-- meterworks/meterworksref02.errors -/
theorem c_meterworksref02_errors (r : Reg) (l : List Int) (hl : l.length ≤ 1000) : Contract Try.prog 37 [regV r, .leaf (.d (intsD l))] (.int (errD r l)) [] := by
  refine con_of follows_mixed Try.func37 rfl (by simp only [List.length_cons, List.length_nil, Try.ntmps37]; omega) (by kernel_rfl) rfl ?_
  refine Exec.reg ?_
  iterate 2 (refine Run.op (by simp only [go_sem, errD, if_false, if_true] <;> rfl) (by simp only [go_sem] <;> rfl) ?_)
  refine Run.nil ?_
  refine Exec.assocS ?_
  refine Exec.reg ?_
  refine Run.op (by simp only [go_sem, errD, if_false, if_true] <;> rfl) (by simp only [go_sem] <;> rfl) ?_
  refine Run.cal (c_meterworksref02_Register r) (by simp only [go_sem]) (by simp only [go_sem, errD, if_false, if_true] <;> rfl) (by exact ⟨by first | exact WkR.pure rfl | exact WkR.nil _ | exact WkR.int (by first | omega | (simp; done) | (simp; omega)), trivial⟩) (fr0) (by simp only [go_sem, errD, if_false, if_true] <;> rfl) ?_
  refine Run.op (by simp only [go_sem, errD, if_false, if_true] <;> rfl) (by simp only [go_sem] <;> rfl) ?_
  refine Run.nil ?_
  refine Exec.cndS (by simp only [go_sem, errD, if_false, if_true] <;> rfl) (fun hb8 => ?_) (fun hb8 => ?_)
  · skip
    have hreg : regB r = false := by simpa using hb8
    refine Exec.assocS ?_
    refine Exec.reg ?_
    refine Run.op (by simp only [go_sem, errD, if_false, if_true, hreg] <;> rfl) (by simp only [go_sem] <;> rfl) ?_
    refine Run.nil ?_
    refine Exec.retS ?_
    exact Ends.fin [] (rs := [.tmp 4]) rfl (by simp only [go_sem, errD, if_false, if_true, hreg] <;> rfl) (by simp only [go_sem, errD, if_false, if_true, hreg] <;> first | rfl | ((repeat' (first | with_reducible_and_instances rfl | refine st_eq ?_ ?_ ?_ | refine ret_eq ?_ | refine tup_eq ?_ | refine tm_eq ?_ ?_ | refine arr_eq ?_ | refine cells_eq ?_ | refine val_eq ?_ | refine ls_eq ?_ ?_ | refine own_eq ?_ ?_ | refine sl_eq ?_ | refine b_eq ?_ | (refine i_eq ?_; omega))); done))
  · skip
    have hreg : regB r = true := by simpa using hb8
    have hrf : (regB r = false) = False := by simp [hreg]
    refine Exec.skipS ?_
    refine Exec.assocS ?_
    refine Exec.reg ?_
    iterate 3 (refine Run.op (by simp only [go_sem, errD, if_false, if_true, hrf] <;> rfl) (by simp only [go_sem] <;> rfl) ?_)
    refine Run.nil ?_
    refine Exec.cndS (by simp only [go_sem, errD, if_false, if_true, hrf] <;> rfl) (fun hb11 => ?_) (fun hb11 => ?_)
    · skip
      have hlen : ((32 : Int) < (l.length : Int)) = True := by have := of_decide_eq_true hb11; simp; omega
      refine Exec.assocS ?_
      refine Exec.reg ?_
      refine Run.op (by simp only [go_sem, errD, if_false, if_true, hrf, hlen] <;> rfl) (by simp only [go_sem] <;> rfl) ?_
      refine Run.nil ?_
      refine Exec.retS ?_
      exact Ends.fin [] (rs := [.tmp 4]) rfl (by simp only [go_sem, errD, if_false, if_true, hrf, hlen] <;> rfl) (by simp only [go_sem, errD, if_false, if_true, hrf, hlen] <;> first | rfl | ((repeat' (first | with_reducible_and_instances rfl | refine st_eq ?_ ?_ ?_ | refine ret_eq ?_ | refine tup_eq ?_ | refine tm_eq ?_ ?_ | refine arr_eq ?_ | refine cells_eq ?_ | refine val_eq ?_ | refine ls_eq ?_ ?_ | refine own_eq ?_ ?_ | refine sl_eq ?_ | refine b_eq ?_ | (refine i_eq ?_; omega))); done))
    · skip
      have hlen : ((32 : Int) < (l.length : Int)) = False := by have := of_decide_eq_false hb11; simp; omega
      refine Exec.skipS ?_
      refine Exec.assocS ?_
      refine Exec.reg ?_
      refine Run.op (by simp only [go_sem, errD, if_false, if_true, hrf, hlen] <;> rfl) (by simp only [go_sem] <;> rfl) ?_
      refine Run.nil ?_
      refine Exec.blk ?_
      refine Exec.forA [1, 5] [] (l.length) (fun k => [.slot 5 (.int k)]) (fun k => (l.take k).all (fun n => inD n (-1099511627776) 1099511627776) = true) (fun k => by simp only [go_sem] <;> rfl) (by simp only [go_sem, errD, if_false, if_true, hrf, hlen] <;> rfl) ?_ (fun k hk hX => ?_)
      · rfl
      · skip
        refine Exec.assocS ?_
        refine Exec.reg ?_
        iterate 4 (refine Run.op (by simp only [go_sem, errD, if_false, if_true, hrf, hlen] <;> rfl) (by simp only [go_sem] <;> rfl) ?_)
        refine Run.nil ?_
        refine Exec.cndS (by simp only [go_sem, errD, if_false, if_true, hrf, hlen] <;> rfl) (fun hb15 => ?_) (fun hb15 => ?_)
        · skip
          have hlt := lt_of_dec hb15
          obtain ⟨s, hs⟩ := elem_of hb15
          refine Exec.skipS ?_
          refine Exec.blk ?_
          refine Exec.reg ?_
          iterate 2 (refine Run.op (by simp only [go_sem, errD, if_false, if_true, hrf, hlen, hs] <;> rfl) (by simp only [go_sem] <;> rfl) ?_)
          refine Run.op (by simp only [go_sem, errD, if_false, if_true, hrf, hlen, hs]; (try simp (disch := omega) only [if_pos]); (try simp only [go_sem, errD, if_false, if_true, hrf, hlen, hs])<;> rfl) (by simp only [go_sem] <;> rfl) ?_
          refine Run.op (by simp only [go_sem, errD, if_false, if_true, hrf, hlen, hs] <;> rfl) (by simp only [go_sem] <;> rfl) ?_
          refine Run.cal (c_meterworksref02_in _ _ _) (by simp only [go_sem]) (by simp only [go_sem, errD, if_false, if_true, hrf, hlen, hs] <;> rfl) (by exact ⟨by first | exact WkR.pure rfl | exact WkR.nil _ | exact WkR.int (by first | omega | (simp; done) | (simp; omega)), by first | exact WkR.pure rfl | exact WkR.nil _ | exact WkR.int (by first | omega | (simp; done) | (simp; omega)), by first | exact WkR.pure rfl | exact WkR.nil _ | exact WkR.int (by first | omega | (simp; done) | (simp; omega)), trivial⟩) (fr0) (by simp only [go_sem, errD, if_false, if_true, hrf, hlen, hs] <;> rfl) ?_
          refine Run.op (by simp only [go_sem, errD, if_false, if_true, hrf, hlen, hs] <;> rfl) (by simp only [go_sem] <;> rfl) ?_
          refine Run.nil ?_
          refine Exec.cnd (by simp only [go_sem, errD, if_false, if_true, hrf, hlen, hs] <;> rfl) (fun hb23 => ?_) (fun hb23 => ?_)
          · skip
            have ha : l.all (fun n => inD n (-1099511627776) 1099511627776) = false := all_stop hs (by simpa using hb23)
            refine Exec.reg ?_
            refine Run.op (by simp only [go_sem, errD, if_false, if_true, hrf, hlen, hs, ha] <;> rfl) (by simp only [go_sem] <;> rfl) ?_
            refine Run.nil ?_
            refine BlkK.ret ?_
            refine ForK.ret ?_
            refine BlkK.ret ?_
            exact Ends.fin [] (rs := [.tmp 4]) rfl (by simp only [go_sem, errD, if_false, if_true, hrf, hlen, hs, ha] <;> rfl) (by simp only [go_sem, errD, if_false, if_true, hrf, hlen, hs, ha] <;> first | rfl | ((repeat' (first | with_reducible_and_instances rfl | refine st_eq ?_ ?_ ?_ | refine ret_eq ?_ | refine tup_eq ?_ | refine tm_eq ?_ ?_ | refine arr_eq ?_ | refine cells_eq ?_ | refine val_eq ?_ | refine ls_eq ?_ ?_ | refine own_eq ?_ ?_ | refine sl_eq ?_ | refine b_eq ?_ | (refine i_eq ?_; omega))); done))
          · skip
            refine BlkK.nrm ?_
            refine Exec.reg1 ?_
            refine Run.op (by simp only [go_sem, errD, if_false, if_true, hrf, hlen, hs] <;> rfl) (by simp only [go_sem] <;> rfl) ?_
            refine Run.op (by simp only [go_sem, errD, if_false, if_true, hrf, hlen, hs]; (try simp (disch := omega) only [IntWalk.i64_in, IntWalk.u64_in, if_neg, if_pos])<;> rfl) (by simp only [go_sem] <;> rfl) ?_
            refine Run.op (by simp only [go_sem, errD, if_false, if_true, hrf, hlen, hs] <;> rfl) (by simp only [go_sem] <;> rfl) ?_
            refine Run.nil ?_
            refine ForK.nxt ?_ ?_ ?_
            · omega
            · exact Ghost.kp [1, 5] [] (by simp only [go_sem, errD, if_false, if_true, hrf, hlen, hs]; first | ((repeat' (first | with_reducible_and_instances rfl | refine st_eq ?_ ?_ ?_ | refine ret_eq ?_ | refine tup_eq ?_ | refine tm_eq ?_ ?_ | refine arr_eq ?_ | refine cells_eq ?_ | refine val_eq ?_ | refine ls_eq ?_ ?_ | refine own_eq ?_ ?_ | refine sl_eq ?_ | refine b_eq ?_ | (refine i_eq ?_; omega))); done) | rfl)
            · exact all_step hX hs (by simpa using hb23)
        · skip
          have ha0 := all_done hX (ge_of_dec hb15)
          have ha : (l.all (fun n => inD n (-1099511627776) 1099511627776) = false) = False := by simp [ha0]
          refine Exec.exitS ?_
          refine ForK.ext ?_
          refine BlkK.hit ?_
          refine Exec.reg ?_
          refine Run.op (by simp only [go_sem, errD, if_false, if_true, hrf, hlen, ha] <;> rfl) (by simp only [go_sem] <;> rfl) ?_
          refine Run.nil ?_
          exact Ends.fin [] (rs := [.tmp 4]) rfl (by simp only [go_sem, errD, if_false, if_true, hrf, hlen, ha] <;> rfl) (by simp only [go_sem, errD, if_false, if_true, hrf, hlen, ha] <;> first | rfl | ((repeat' (first | with_reducible_and_instances rfl | refine st_eq ?_ ?_ ?_ | refine ret_eq ?_ | refine tup_eq ?_ | refine tm_eq ?_ ?_ | refine arr_eq ?_ | refine cells_eq ?_ | refine val_eq ?_ | refine ls_eq ?_ ?_ | refine own_eq ?_ ?_ | refine sl_eq ?_ | refine b_eq ?_ | (refine i_eq ?_; omega))); done))

set_option maxRecDepth 20000 in
/-- meterworks/meterworksref02.Ints -/
theorem c_meterworksref02_Ints (l m : List Int) (h1 : l.length ≤ 100000) (h2 : m.length ≤ 100000) : Contract Try.prog 16 [.leaf (.d (intsD l)), .leaf (.d (intsD m))] (.bool (decide (l = m))) [] := by
  refine con_of follows_mixed Try.func16 rfl (by simp only [List.length_cons, List.length_nil, Try.ntmps16]; omega) (by kernel_rfl) rfl ?_
  refine Exec.reg ?_
  refine Run.op (by simp only [go_sem] <;> rfl) (by simp only [go_sem] <;> rfl) ?_
  refine Run.nil ?_
  refine Exec.assocS ?_
  refine Exec.reg ?_
  iterate 5 (refine Run.op (by simp only [go_sem] <;> rfl) (by simp only [go_sem] <;> rfl) ?_)
  refine Run.nil ?_
  refine Exec.cndS (by simp only [go_sem] <;> rfl) (fun hb10 => ?_) (fun hb10 => ?_)
  · skip
    have hr : decide (l = m) = false := by rw [decide_eq_false_iff_not]; rintro rfl; simp at hb10
    refine Exec.assocS ?_
    refine Exec.reg ?_
    refine Run.op (by simp only [go_sem, hr] <;> rfl) (by simp only [go_sem] <;> rfl) ?_
    refine Run.nil ?_
    refine Exec.retS ?_
    exact Ends.fin [] (rs := [.tmp 4]) rfl (by simp only [go_sem, hr] <;> rfl) (by simp only [go_sem, hr] <;> first | rfl | ((repeat' (first | with_reducible_and_instances rfl | refine st_eq ?_ ?_ ?_ | refine ret_eq ?_ | refine tup_eq ?_ | refine tm_eq ?_ ?_ | refine arr_eq ?_ | refine cells_eq ?_ | refine val_eq ?_ | refine ls_eq ?_ ?_ | refine own_eq ?_ ?_ | refine sl_eq ?_ | refine b_eq ?_ | (refine i_eq ?_; omega))); done))
  · skip
    have hlen : l.length = m.length := Int.ofNat_inj.1 (by simpa using hb10)
    refine Exec.skipS ?_
    refine Exec.assocS ?_
    refine Exec.reg ?_
    refine Run.op (by simp only [go_sem] <;> rfl) (by simp only [go_sem] <;> rfl) ?_
    refine Run.nil ?_
    refine Exec.blk ?_
    refine Exec.forA [0, 1, 5] [] (l.length) (fun k => [.slot 5 (.int k)]) (fun k => ∀ j, j < k → l[j]? = m[j]?) (fun k => by simp only [go_sem] <;> rfl) (by simp only [go_sem] <;> rfl) ?_ (fun k hk hX => ?_)
    · exact fun j hj => absurd hj (by omega)
    · skip
      refine Exec.assocS ?_
      refine Exec.reg ?_
      iterate 4 (refine Run.op (by simp only [go_sem] <;> rfl) (by simp only [go_sem] <;> rfl) ?_)
      refine Run.nil ?_
      refine Exec.cndS (by simp only [go_sem] <;> rfl) (fun hb14 => ?_) (fun hb14 => ?_)
      · skip
        have hlt := lt_of_dec hb14
        obtain ⟨a, ha⟩ : ∃ a, l[k]? = some a := ⟨_, List.getElem?_eq_getElem hlt⟩
        obtain ⟨b, hb⟩ : ∃ b, m[k]? = some b := ⟨_, List.getElem?_eq_getElem (by omega)⟩
        refine Exec.skipS ?_
        refine Exec.blk ?_
        refine Exec.opk 11 ?_
        refine OpenK.op (by simp only [go_sem, ha, hb] <;> rfl) (by simp only [go_sem] <;> rfl) (by simp only [go_sem] <;> rfl) ?_
        refine OpenK.op (by simp only [go_sem, ha, hb] <;> rfl) (by simp only [go_sem] <;> rfl) (by simp only [go_sem] <;> rfl) ?_
        refine OpenK.op (by simp only [go_sem, ha, hb]; (try simp (disch := omega) only [if_pos]); (try simp only [go_sem, ha, hb])<;> rfl) (by simp only [go_sem] <;> rfl) (by simp only [go_sem] <;> rfl) ?_
        refine OpenK.op (by simp only [go_sem, ha, hb] <;> rfl) (by simp only [go_sem] <;> rfl) (by simp only [go_sem] <;> rfl) ?_
        refine OpenK.op (by simp only [go_sem, ha, hb] <;> rfl) (by simp only [go_sem] <;> rfl) (by simp only [go_sem] <;> rfl) ?_
        refine OpenK.op (by simp only [go_sem, ha, hb] <;> rfl) (by simp only [go_sem] <;> rfl) (by simp only [go_sem] <;> rfl) ?_
        refine OpenK.op (by simp only [go_sem, ha, hb]; (try simp (disch := omega) only [if_pos]); (try simp only [go_sem, ha, hb])<;> rfl) (by simp only [go_sem] <;> rfl) (by simp only [go_sem] <;> rfl) ?_
        refine OpenK.op (by simp only [go_sem, ha, hb] <;> rfl) (by simp only [go_sem] <;> rfl) (by simp only [go_sem] <;> rfl) ?_
        refine OpenK.op (by simp only [go_sem, ha, hb] <;> rfl) (by simp only [go_sem] <;> rfl) (by simp only [go_sem] <;> rfl) ?_
        refine OpenK.nil (OpenE.fin (by decide +kernel) (by decide +kernel) ?_)
        refine Exec.cnd (by simp only [go_sem, ha, hb] <;> rfl) (fun hb25 => ?_) (fun hb25 => ?_)
        · skip
          have hr : decide (l = m) = false := by rw [decide_eq_false_iff_not]; rintro rfl; rw [ha] at hb; cases hb; simp at hb25
          refine Exec.reg ?_
          refine Run.op (by simp only [go_sem, ha, hb, hr] <;> rfl) (by simp only [go_sem] <;> rfl) ?_
          refine Run.nil ?_
          refine BlkK.ret ?_
          refine ForK.ret ?_
          refine BlkK.ret ?_
          exact Ends.fin [] (rs := [.tmp 4]) rfl (by simp only [go_sem, ha, hb, hr] <;> rfl) (by simp only [go_sem, ha, hb, hr] <;> first | rfl | ((repeat' (first | with_reducible_and_instances rfl | refine st_eq ?_ ?_ ?_ | refine ret_eq ?_ | refine tup_eq ?_ | refine tm_eq ?_ ?_ | refine arr_eq ?_ | refine cells_eq ?_ | refine val_eq ?_ | refine ls_eq ?_ ?_ | refine own_eq ?_ ?_ | refine sl_eq ?_ | refine b_eq ?_ | (refine i_eq ?_; omega))); done))
        · skip
          have hab : a = b := int_eq hb25
          refine BlkK.nrm ?_
          refine Exec.reg1 ?_
          refine Run.op (by simp only [go_sem, ha, hb] <;> rfl) (by simp only [go_sem] <;> rfl) ?_
          refine Run.op (by simp only [go_sem, ha, hb]; (try simp (disch := omega) only [IntWalk.i64_in, IntWalk.u64_in, if_neg, if_pos])<;> rfl) (by simp only [go_sem] <;> rfl) ?_
          refine Run.op (by simp only [go_sem, ha, hb] <;> rfl) (by simp only [go_sem] <;> rfl) ?_
          refine Run.nil ?_
          refine ForK.nxt ?_ ?_ ?_
          · omega
          · exact Ghost.kp [0, 1, 5] [] (by simp only [go_sem, ha, hb]; first | ((repeat' (first | with_reducible_and_instances rfl | refine st_eq ?_ ?_ ?_ | refine ret_eq ?_ | refine tup_eq ?_ | refine tm_eq ?_ ?_ | refine arr_eq ?_ | refine cells_eq ?_ | refine val_eq ?_ | refine ls_eq ?_ ?_ | refine own_eq ?_ ?_ | refine sl_eq ?_ | refine b_eq ?_ | (refine i_eq ?_; omega))); done) | rfl)
          · exact fun j hj => if e : j = k then e ▸ (by rw [ha, hb]; rw [hab]) else hX j (by omega)
      · skip
        have hr : decide (l = m) = true := by rw [decide_eq_true_iff]; exact List.ext_getElem? fun j => if hj : j < k then hX j hj else by have := ge_of_dec hb14; rw [List.getElem?_eq_none (by omega), List.getElem?_eq_none (by omega)]
        refine Exec.exitS ?_
        refine ForK.ext ?_
        refine BlkK.hit ?_
        refine Exec.reg ?_
        refine Run.op (by simp only [go_sem, hr] <;> rfl) (by simp only [go_sem] <;> rfl) ?_
        refine Run.nil ?_
        exact Ends.fin [] (rs := [.tmp 4]) rfl (by simp only [go_sem, hr] <;> rfl) (by simp only [go_sem, hr] <;> first | rfl | ((repeat' (first | with_reducible_and_instances rfl | refine st_eq ?_ ?_ ?_ | refine ret_eq ?_ | refine tup_eq ?_ | refine tm_eq ?_ ?_ | refine arr_eq ?_ | refine cells_eq ?_ | refine val_eq ?_ | refine ls_eq ?_ ?_ | refine own_eq ?_ ?_ | refine sl_eq ?_ | refine b_eq ?_ | (refine i_eq ?_; omega))); done))

set_option maxRecDepth 20000 in
/-- meterworks/meterworksref02.Spans -/
theorem c_meterworksref02_Spans (l m : List Go.Dr.Span) (h1 : l.length ≤ 100000) (h2 : m.length ≤ 100000) : Contract Try.prog 19 [.leaf (.d (spansD l)), .leaf (.d (spansD m))] (.bool (decide (l = m))) [] := by
  refine con_of follows_mixed Try.func19 rfl (by simp only [List.length_cons, List.length_nil, Try.ntmps19]; omega) (by kernel_rfl) rfl ?_
  refine Exec.reg ?_
  refine Run.op (by simp only [go_sem] <;> rfl) (by simp only [go_sem] <;> rfl) ?_
  refine Run.nil ?_
  refine Exec.assocS ?_
  refine Exec.reg ?_
  iterate 5 (refine Run.op (by simp only [go_sem] <;> rfl) (by simp only [go_sem] <;> rfl) ?_)
  refine Run.nil ?_
  refine Exec.cndS (by simp only [go_sem] <;> rfl) (fun hb10 => ?_) (fun hb10 => ?_)
  · skip
    have hr : decide (l = m) = false := by rw [decide_eq_false_iff_not]; rintro rfl; simp at hb10
    refine Exec.assocS ?_
    refine Exec.reg ?_
    refine Run.op (by simp only [go_sem, hr] <;> rfl) (by simp only [go_sem] <;> rfl) ?_
    refine Run.nil ?_
    refine Exec.retS ?_
    exact Ends.fin [] (rs := [.tmp 4]) rfl (by simp only [go_sem, hr] <;> rfl) (by simp only [go_sem, hr] <;> first | rfl | ((repeat' (first | with_reducible_and_instances rfl | refine st_eq ?_ ?_ ?_ | refine ret_eq ?_ | refine tup_eq ?_ | refine tm_eq ?_ ?_ | refine arr_eq ?_ | refine cells_eq ?_ | refine val_eq ?_ | refine ls_eq ?_ ?_ | refine own_eq ?_ ?_ | refine sl_eq ?_ | refine b_eq ?_ | (refine i_eq ?_; omega))); done))
  · skip
    have hlen : l.length = m.length := Int.ofNat_inj.1 (by simpa using hb10)
    refine Exec.skipS ?_
    refine Exec.assocS ?_
    refine Exec.reg ?_
    refine Run.op (by simp only [go_sem] <;> rfl) (by simp only [go_sem] <;> rfl) ?_
    refine Run.nil ?_
    refine Exec.blk ?_
    refine Exec.forA [0, 1, 5] [] (l.length) (fun k => [.slot 5 (.int k)]) (fun k => ∀ j, j < k → l[j]? = m[j]?) (fun k => by simp only [go_sem] <;> rfl) (by simp only [go_sem] <;> rfl) ?_ (fun k hk hX => ?_)
    · exact fun j hj => absurd hj (by omega)
    · skip
      refine Exec.assocS ?_
      refine Exec.reg ?_
      iterate 4 (refine Run.op (by simp only [go_sem] <;> rfl) (by simp only [go_sem] <;> rfl) ?_)
      refine Run.nil ?_
      refine Exec.cndS (by simp only [go_sem] <;> rfl) (fun hb14 => ?_) (fun hb14 => ?_)
      · skip
        have hlt := lt_of_dec hb14
        obtain ⟨a, ha⟩ : ∃ a, l[k]? = some a := ⟨_, List.getElem?_eq_getElem hlt⟩
        obtain ⟨b, hb⟩ : ∃ b, m[k]? = some b := ⟨_, List.getElem?_eq_getElem (by omega)⟩
        refine Exec.skipS ?_
        refine Exec.blk ?_
        refine Exec.opk 11 ?_
        refine OpenK.op (by simp only [go_sem, ha, hb] <;> rfl) (by simp only [go_sem] <;> rfl) (by simp only [go_sem] <;> rfl) ?_
        refine OpenK.op (by simp only [go_sem, ha, hb] <;> rfl) (by simp only [go_sem] <;> rfl) (by simp only [go_sem] <;> rfl) ?_
        refine OpenK.op (by simp only [go_sem, ha, hb]; (try simp (disch := omega) only [if_pos]); (try simp only [go_sem, ha, hb])<;> rfl) (by simp only [go_sem] <;> rfl) (by simp only [go_sem] <;> rfl) ?_
        refine OpenK.op (by simp only [go_sem, ha, hb] <;> rfl) (by simp only [go_sem] <;> rfl) (by simp only [go_sem] <;> rfl) ?_
        refine OpenK.op (by simp only [go_sem, ha, hb] <;> rfl) (by simp only [go_sem] <;> rfl) (by simp only [go_sem] <;> rfl) ?_
        refine OpenK.op (by simp only [go_sem, ha, hb] <;> rfl) (by simp only [go_sem] <;> rfl) (by simp only [go_sem] <;> rfl) ?_
        refine OpenK.op (by simp only [go_sem, ha, hb]; (try simp (disch := omega) only [if_pos]); (try simp only [go_sem, ha, hb])<;> rfl) (by simp only [go_sem] <;> rfl) (by simp only [go_sem] <;> rfl) ?_
        refine OpenK.op (by simp only [go_sem, ha, hb] <;> rfl) (by simp only [go_sem] <;> rfl) (by simp only [go_sem] <;> rfl) ?_
        refine OpenK.op (by simp only [go_sem, ha, hb] <;> rfl) (by simp only [go_sem] <;> rfl) (by simp only [go_sem] <;> rfl) ?_
        refine OpenK.nil (OpenE.fin (by decide +kernel) (by decide +kernel) ?_)
        refine Exec.cnd (by simp only [go_sem, ha, hb] <;> rfl) (fun hb25 => ?_) (fun hb25 => ?_)
        · skip
          have hr : decide (l = m) = false := by rw [decide_eq_false_iff_not]; rintro rfl; rw [ha] at hb; cases hb; simp at hb25
          refine Exec.reg ?_
          refine Run.op (by simp only [go_sem, ha, hb, hr] <;> rfl) (by simp only [go_sem] <;> rfl) ?_
          refine Run.nil ?_
          refine BlkK.ret ?_
          refine ForK.ret ?_
          refine BlkK.ret ?_
          exact Ends.fin [] (rs := [.tmp 4]) rfl (by simp only [go_sem, ha, hb, hr] <;> rfl) (by simp only [go_sem, ha, hb, hr] <;> first | rfl | ((repeat' (first | with_reducible_and_instances rfl | refine st_eq ?_ ?_ ?_ | refine ret_eq ?_ | refine tup_eq ?_ | refine tm_eq ?_ ?_ | refine arr_eq ?_ | refine cells_eq ?_ | refine val_eq ?_ | refine ls_eq ?_ ?_ | refine own_eq ?_ ?_ | refine sl_eq ?_ | refine b_eq ?_ | (refine i_eq ?_; omega))); done))
        · skip
          have hab : a = b := span_eq hb25
          refine BlkK.nrm ?_
          refine Exec.reg1 ?_
          refine Run.op (by simp only [go_sem, ha, hb] <;> rfl) (by simp only [go_sem] <;> rfl) ?_
          refine Run.op (by simp only [go_sem, ha, hb]; (try simp (disch := omega) only [IntWalk.i64_in, IntWalk.u64_in, if_neg, if_pos])<;> rfl) (by simp only [go_sem] <;> rfl) ?_
          refine Run.op (by simp only [go_sem, ha, hb] <;> rfl) (by simp only [go_sem] <;> rfl) ?_
          refine Run.nil ?_
          refine ForK.nxt ?_ ?_ ?_
          · omega
          · exact Ghost.kp [0, 1, 5] [] (by simp only [go_sem, ha, hb]; first | ((repeat' (first | with_reducible_and_instances rfl | refine st_eq ?_ ?_ ?_ | refine ret_eq ?_ | refine tup_eq ?_ | refine tm_eq ?_ ?_ | refine arr_eq ?_ | refine cells_eq ?_ | refine val_eq ?_ | refine ls_eq ?_ ?_ | refine own_eq ?_ ?_ | refine sl_eq ?_ | refine b_eq ?_ | (refine i_eq ?_; omega))); done) | rfl)
          · exact fun j hj => if e : j = k then e ▸ (by rw [ha, hb]; rw [hab]) else hX j (by omega)
      · skip
        have hr : decide (l = m) = true := by rw [decide_eq_true_iff]; exact List.ext_getElem? fun j => if hj : j < k then hX j hj else by have := ge_of_dec hb14; rw [List.getElem?_eq_none (by omega), List.getElem?_eq_none (by omega)]
        refine Exec.exitS ?_
        refine ForK.ext ?_
        refine BlkK.hit ?_
        refine Exec.reg ?_
        refine Run.op (by simp only [go_sem, hr] <;> rfl) (by simp only [go_sem] <;> rfl) ?_
        refine Run.nil ?_
        exact Ends.fin [] (rs := [.tmp 4]) rfl (by simp only [go_sem, hr] <;> rfl) (by simp only [go_sem, hr] <;> first | rfl | ((repeat' (first | with_reducible_and_instances rfl | refine st_eq ?_ ?_ ?_ | refine ret_eq ?_ | refine tup_eq ?_ | refine tm_eq ?_ ?_ | refine arr_eq ?_ | refine cells_eq ?_ | refine val_eq ?_ | refine ls_eq ?_ ?_ | refine own_eq ?_ ?_ | refine sl_eq ?_ | refine b_eq ?_ | (refine i_eq ?_; omega))); done))

theorem take_succ_snoc {α : Type} {l : List α} {k : Nat} {a : α} (h : l[k]? = some a) : l.take (k + 1) = l.take k ++ [a] := by
  obtain ⟨h1, rfl⟩ := List.getElem?_eq_some_iff.1 h
  exact List.take_succ_eq_append_getElem h1
theorem fig_zero (t : Int) : (placesD 0 t).map figD = [] := rfl
set_option maxRecDepth 20000 in
set_option maxHeartbeats 2000000 in
/-- meterworks/drum.Run -/
theorem c_drum_Run (r : Reg) (l : List Int) (hl : l.length ≤ 1000) : Contract Try.prog 12 [regV r, .leaf (.d (intsD l))] (runV (runR r l)) [] := by
  refine con_of follows_mixed Try.func12 rfl (by simp only [List.length_cons, List.length_nil, Try.ntmps12]; omega) (by kernel_rfl) rfl ?_
  refine Exec.reg ?_
  iterate 4 (refine Run.op (by simp only [go_sem] <;> rfl) (by simp only [go_sem] <;> rfl) ?_)
  refine Run.nil ?_
  refine Exec.assocS ?_
  refine Exec.reg ?_
  iterate 2 (refine Run.op (by simp only [go_sem] <;> rfl) (by simp only [go_sem] <;> rfl) ?_)
  refine Run.cal (c_drum_check r l hl) (by simp only [go_sem]) (by simp only [go_sem] <;> rfl) (by exact ⟨by first | exact WkR.pure rfl | exact WkR.nil _ | exact WkR.int (by first | omega | (simp; done) | (simp; omega)), by first | exact WkR.pure rfl | exact WkR.nil _ | exact WkR.int (by first | omega | (simp; done) | (simp; omega)), trivial⟩) (fr0) (by simp only [go_sem] <;> rfl) ?_
  refine Run.op (by simp only [go_sem] <;> rfl) (by simp only [go_sem] <;> rfl) ?_
  refine Run.nil ?_
  refine Exec.assocS ?_
  refine Exec.reg ?_
  iterate 2 (refine Run.op (by simp only [go_sem] <;> rfl) (by simp only [go_sem] <;> rfl) ?_)
  refine Run.nil ?_
  refine Exec.cndS (by simp only [go_sem] <;> rfl) (fun hb13 => ?_) (fun hb13 => ?_)
  · skip
    have he : ¬ errD r l = 0 := by simpa using hb13
    have hrun : runR r l = (0, [], errD r l) := if_neg he
    refine Exec.assocS ?_
    refine Exec.reg ?_
    iterate 4 (refine Run.op (by simp only [go_sem, hrun] <;> rfl) (by simp only [go_sem] <;> rfl) ?_)
    refine Run.nild 5 1 (by simp only [go_sem] <;> rfl) (by simp only [go_sem] <;> rfl) ?_
    refine Run.nil ?_
    refine Exec.retS ?_
    exact Ends.fin [] (rs := [.tmp 4, .tmp 5, .tmp 6]) rfl (by simp only [go_sem, hrun] <;> rfl) (by simp only [go_sem, hrun] <;> first | rfl | ((repeat' (first | with_reducible_and_instances rfl | refine st_eq ?_ ?_ ?_ | refine ret_eq ?_ | refine tup_eq ?_ | refine tm_eq ?_ ?_ | refine arr_eq ?_ | refine cells_eq ?_ | refine val_eq ?_ | refine ls_eq ?_ ?_ | refine own_eq ?_ ?_ | refine sl_eq ?_ | refine b_eq ?_ | (refine i_eq ?_; omega))); done))
  · skip
    have he : errD r l = 0 := by simpa using hb13
    obtain ⟨hreg, hl32, hlb⟩ := err_zero he
    have hq := reg_iff.1 hreg
    have htb := turn_bnd hq.1.2
    have htot := total_bnd hreg l
    have hrun := run_zero he
    refine Exec.skipS ?_
    refine Exec.reg ?_
    iterate 3 (refine Run.op (by simp only [go_sem, hrun, he] <;> rfl) (by simp only [go_sem] <;> rfl) ?_)
    refine Run.nil ?_
    refine Exec.assocS ?_
    refine Exec.reg ?_
    iterate 3 (refine Run.op (by simp only [go_sem, hrun, he] <;> rfl) (by simp only [go_sem] <;> rfl) ?_)
    refine Run.nil ?_
    refine Exec.blk ?_
    refine Exec.forA [2, 4, 17, 18, 19] [2] (l.length) (fun k => [.slot 19 (.int k), .slot 4 (.int (r.start + sumD (l.take k)))]) (fun _ => True) (fun k => by simp only [go_sem] <;> rfl) (by simp only [go_sem, hrun, he, List.take_zero, sumD, Int.add_zero, Int.natCast_zero] <;> rfl) ?_ (fun k hk hX => ?_)
    · trivial
    · skip
      refine Exec.reg ?_
      refine Run.op (by simp only [go_sem, hrun, he] <;> rfl) (by simp only [go_sem] <;> rfl) ?_
      refine Run.nil ?_
      refine Exec.cndS (by simp only [go_sem, hrun, he] <;> rfl) (fun hb20 => ?_) (fun hb20 => ?_)
      · skip
        have hlt := lt_of_dec hb20
        obtain ⟨s, hs⟩ := elem_of hb20
        have hs1 : sumD (l.take (k + 1)) = sumD (l.take k) + s := by rw [take_succ_snoc hs, sum_snoc]
        have hb1 := sum_bnd (l := l.take k) fun n hn => hlb n (List.mem_of_mem_take hn)
        have hb2 := hlb s (List.mem_of_getElem? hs)
        have hb3 : (l.take k).length ≤ 32 := by rw [List.length_take]; omega
        refine Exec.skipS ?_
        refine Exec.blk ?_
        refine Exec.reg ?_
        refine Run.op (by simp only [go_sem, hrun, he, hs, hs1]; (try simp (disch := omega) only [if_pos]); (try simp only [go_sem, hrun, he, hs, hs1])<;> rfl) (by simp only [go_sem] <;> rfl) ?_
        iterate 2 (refine Run.op (by simp only [go_sem, hrun, he, hs, hs1] <;> rfl) (by simp only [go_sem] <;> rfl) ?_)
        refine Run.nil ?_
        refine Exec.reg1 ?_
        iterate 2 (refine Run.op (by simp only [go_sem, hrun, he, hs, hs1] <;> rfl) (by simp only [go_sem] <;> rfl) ?_)
        refine Run.op (by simp only [go_sem, hrun, he, hs, hs1]; (try simp (disch := omega) only [IntWalk.i64_in, IntWalk.u64_in, if_neg, if_pos])<;> rfl) (by simp only [go_sem] <;> rfl) ?_
        refine Run.op (by simp only [go_sem, hrun, he, hs, hs1] <;> rfl) (by simp only [go_sem] <;> rfl) ?_
        refine Run.nil ?_
        refine BlkK.nrm ?_
        refine Exec.reg1 ?_
        refine Run.op (by simp only [go_sem, hrun, he, hs, hs1]; (try simp (disch := omega) only [IntWalk.i64_in, IntWalk.u64_in, if_neg, if_pos])<;> rfl) (by simp only [go_sem] <;> rfl) ?_
        refine Run.op (by simp only [go_sem, hrun, he, hs, hs1] <;> rfl) (by simp only [go_sem] <;> rfl) ?_
        refine Run.nil ?_
        refine ForK.nxt ?_ ?_ ?_
        · omega
        · exact Ghost.kp [2, 4, 17, 18, 19] [2] (by simp only [go_sem, hrun, he, hs, hs1]; first | ((repeat' (first | with_reducible_and_instances rfl | refine st_eq ?_ ?_ ?_ | refine ret_eq ?_ | refine tup_eq ?_ | refine tm_eq ?_ ?_ | refine arr_eq ?_ | refine cells_eq ?_ | refine val_eq ?_ | refine ls_eq ?_ ?_ | refine own_eq ?_ ?_ | refine sl_eq ?_ | refine b_eq ?_ | (refine i_eq ?_; omega))); (all_goals (first | omega | (simp; omega)))) | rfl)
        · trivial
      · skip
        have hke : k = l.length := by have := ge_of_dec hb20; omega
        subst hke
        have hb1 := sum_bnd hlb
        have e : (r.start + sumD l) % turnD r.drums = totalD r l := rfl
        refine Exec.exitS ?_
        refine ForK.ext ?_
        refine BlkK.hit ?_
        refine Exec.reg ?_
        iterate 3 (refine Run.op (by simp only [go_sem, hrun, he, List.take_length, e] <;> rfl) (by simp only [go_sem] <;> rfl) ?_)
        refine Run.cal (c_drum_turnOf r.drums (by omega)) (by simp only [go_sem]) (by simp only [go_sem, hrun, he, List.take_length, e] <;> rfl) (by exact ⟨by first | exact WkR.pure rfl | exact WkR.nil _ | exact WkR.int (by first | omega | (simp; done) | (simp; omega)), trivial⟩) (fr0) (by simp only [go_sem, hrun, he, List.take_length, e] <;> rfl) ?_
        refine Run.cal (c_drum_modulo (r.start + sumD l) (turnD r.drums) (by omega) (by omega)) (by simp only [go_sem]) (by simp only [go_sem, hrun, he, List.take_length, e] <;> rfl) (by exact ⟨by first | exact WkR.pure rfl | exact WkR.nil _ | exact WkR.int (by first | omega | (simp; done) | (simp; omega)), by first | exact WkR.pure rfl | exact WkR.nil _ | exact WkR.int (by first | omega | (simp; done) | (simp; omega)), trivial⟩) (fr0) (by simp only [go_sem, hrun, he, List.take_length, e] <;> rfl) ?_
        refine Run.op (by simp only [go_sem, hrun, he, List.take_length, e] <;> rfl) (by simp only [go_sem] <;> rfl) ?_
        refine Run.nil ?_
        refine Exec.reg ?_
        iterate 4 (refine Run.op (by simp only [go_sem, hrun, he, List.take_length, e] <;> rfl) (by simp only [go_sem] <;> rfl) ?_)
        refine Run.cal (c_drum_list r.drums (by omega) (totalD r l) (by omega) (ds := []) figD (by simp only [go_sem]) (fun p hp => c_drum_place_figure p hp)) (by simp only [go_sem]) (by simp only [go_sem, hrun, he, List.take_length, e] <;> rfl) (by exact ⟨by first | exact WkR.pure rfl | exact WkR.nil _ | exact WkR.int (by first | omega | (simp; done) | (simp; omega)), by first | exact WkR.pure rfl | exact WkR.nil _ | exact WkR.int (by first | omega | (simp; done) | (simp; omega)), by first | exact WkR.pure rfl | exact WkR.nil _ | exact WkR.int (by first | omega | (simp; done) | (simp; omega)), trivial⟩) (fr0) (by simp only [go_sem, hrun, he, List.take_length, e] <;> rfl) ?_
        iterate 3 (refine Run.op (by simp only [go_sem, hrun, he, List.take_length, e] <;> rfl) (by simp only [go_sem] <;> rfl) ?_)
        refine Run.nil ?_
        exact Ends.fin [] (rs := [.tmp 4, .tmp 5, .tmp 6]) rfl (by simp only [go_sem, hrun, he, List.take_length, e] <;> rfl) (by simp only [go_sem, hrun, he, List.take_length, e] <;> first | rfl | ((repeat' (first | with_reducible_and_instances rfl | refine st_eq ?_ ?_ ?_ | refine ret_eq ?_ | refine tup_eq ?_ | refine tm_eq ?_ ?_ | refine arr_eq ?_ | refine cells_eq ?_ | refine val_eq ?_ | refine ls_eq ?_ ?_ | refine own_eq ?_ ?_ | refine sl_eq ?_ | refine b_eq ?_ | (refine i_eq ?_; omega))); done))

set_option maxRecDepth 20000 in
set_option maxHeartbeats 2000000 in
/-- meterworks/meterworksref02.Run -/
theorem c_meterworksref02_Run (r : Reg) (l : List Int) (hl : l.length ≤ 1000) : Contract Try.prog 13 [regV r, .leaf (.d (intsD l))] (runV (runR r l)) [] := by
  refine con_of follows_mixed Try.func13 rfl (by simp only [List.length_cons, List.length_nil, Try.ntmps13]; omega) (by kernel_rfl) rfl ?_
  refine Exec.reg ?_
  iterate 4 (refine Run.op (by simp only [go_sem] <;> rfl) (by simp only [go_sem] <;> rfl) ?_)
  refine Run.nil ?_
  refine Exec.reg ?_
  iterate 2 (refine Run.op (by simp only [go_sem] <;> rfl) (by simp only [go_sem] <;> rfl) ?_)
  refine Run.cal (c_meterworksref02_errors r l hl) (by simp only [go_sem]) (by simp only [go_sem] <;> rfl) (by exact ⟨by first | exact WkR.pure rfl | exact WkR.nil _ | exact WkR.int (by first | omega | (simp; done) | (simp; omega)), by first | exact WkR.pure rfl | exact WkR.nil _ | exact WkR.int (by first | omega | (simp; done) | (simp; omega)), trivial⟩) (fr0) (by simp only [go_sem] <;> rfl) ?_
  refine Run.op (by simp only [go_sem] <;> rfl) (by simp only [go_sem] <;> rfl) ?_
  refine Run.nil ?_
  refine Exec.assocS ?_
  refine Exec.reg ?_
  iterate 2 (refine Run.op (by simp only [go_sem] <;> rfl) (by simp only [go_sem] <;> rfl) ?_)
  refine Run.nil ?_
  refine Exec.cndS (by simp only [go_sem] <;> rfl) (fun hb16 => ?_) (fun hb16 => ?_)
  · skip
    have he : ¬ errD r l = 0 := by simpa using hb16
    have hrun : runR r l = (0, [], errD r l) := if_neg he
    refine Exec.assocS ?_
    refine Exec.reg ?_
    iterate 4 (refine Run.op (by simp only [go_sem, hrun] <;> rfl) (by simp only [go_sem] <;> rfl) ?_)
    refine Run.nild 5 1 (by simp only [go_sem] <;> rfl) (by simp only [go_sem] <;> rfl) ?_
    refine Run.nil ?_
    refine Exec.retS ?_
    exact Ends.fin [] (rs := [.tmp 4, .tmp 5, .tmp 6]) rfl (by simp only [go_sem, hrun] <;> rfl) (by simp only [go_sem, hrun] <;> first | rfl | ((repeat' (first | with_reducible_and_instances rfl | refine st_eq ?_ ?_ ?_ | refine ret_eq ?_ | refine tup_eq ?_ | refine tm_eq ?_ ?_ | refine arr_eq ?_ | refine cells_eq ?_ | refine val_eq ?_ | refine ls_eq ?_ ?_ | refine own_eq ?_ ?_ | refine sl_eq ?_ | refine b_eq ?_ | (refine i_eq ?_; omega))); done))
  · skip
    have he : errD r l = 0 := by simpa using hb16
    obtain ⟨hreg, hl32, hlb⟩ := err_zero he
    have hq := reg_iff.1 hreg
    have htb := turn_bnd hq.1.2
    have htot := total_bnd hreg l
    have hrun := run_zero he
    refine Exec.skipS ?_
    refine Exec.reg ?_
    iterate 3 (refine Run.op (by simp only [go_sem, hrun, he] <;> rfl) (by simp only [go_sem] <;> rfl) ?_)
    refine Run.nil ?_
    refine Exec.assocS ?_
    refine Exec.reg ?_
    refine Run.op (by simp only [go_sem, hrun, he] <;> rfl) (by simp only [go_sem] <;> rfl) ?_
    refine Run.nil ?_
    refine Exec.blk ?_
    refine Exec.forA [1, 2, 8, 9] [2] (l.length) (fun k => [.slot 9 (.int k), .slot 8 (.int (r.start + sumD (l.take k)))]) (fun _ => True) (fun k => by simp only [go_sem] <;> rfl) (by simp only [go_sem, hrun, he, List.take_zero, sumD, Int.add_zero, Int.natCast_zero] <;> rfl) ?_ (fun k hk hX => ?_)
    · trivial
    · skip
      refine Exec.assocS ?_
      refine Exec.reg ?_
      iterate 4 (refine Run.op (by simp only [go_sem, hrun, he] <;> rfl) (by simp only [go_sem] <;> rfl) ?_)
      refine Run.nil ?_
      refine Exec.cndS (by simp only [go_sem, hrun, he] <;> rfl) (fun hb23 => ?_) (fun hb23 => ?_)
      · skip
        have hlt := lt_of_dec hb23
        obtain ⟨s, hs⟩ := elem_of hb23
        have hs1 : sumD (l.take (k + 1)) = sumD (l.take k) + s := by rw [take_succ_snoc hs, sum_snoc]
        have hb1 := sum_bnd (l := l.take k) fun n hn => hlb n (List.mem_of_mem_take hn)
        have hb2 := hlb s (List.mem_of_getElem? hs)
        have hb3 : (l.take k).length ≤ 32 := by rw [List.length_take]; omega
        refine Exec.skipS ?_
        refine Exec.blk ?_
        refine Exec.reg1 ?_
        iterate 3 (refine Run.op (by simp only [go_sem, hrun, he, hs, hs1] <;> rfl) (by simp only [go_sem] <;> rfl) ?_)
        refine Run.op (by simp only [go_sem, hrun, he, hs, hs1]; (try simp (disch := omega) only [if_pos]); (try simp only [go_sem, hrun, he, hs, hs1])<;> rfl) (by simp only [go_sem] <;> rfl) ?_
        refine Run.op (by simp only [go_sem, hrun, he, hs, hs1] <;> rfl) (by simp only [go_sem] <;> rfl) ?_
        refine Run.op (by simp only [go_sem, hrun, he, hs, hs1]; (try simp (disch := omega) only [IntWalk.i64_in, IntWalk.u64_in, if_neg, if_pos])<;> rfl) (by simp only [go_sem] <;> rfl) ?_
        refine Run.op (by simp only [go_sem, hrun, he, hs, hs1] <;> rfl) (by simp only [go_sem] <;> rfl) ?_
        refine Run.nil ?_
        refine BlkK.nrm ?_
        refine Exec.reg1 ?_
        refine Run.op (by simp only [go_sem, hrun, he, hs, hs1] <;> rfl) (by simp only [go_sem] <;> rfl) ?_
        refine Run.op (by simp only [go_sem, hrun, he, hs, hs1]; (try simp (disch := omega) only [IntWalk.i64_in, IntWalk.u64_in, if_neg, if_pos])<;> rfl) (by simp only [go_sem] <;> rfl) ?_
        refine Run.op (by simp only [go_sem, hrun, he, hs, hs1] <;> rfl) (by simp only [go_sem] <;> rfl) ?_
        refine Run.nil ?_
        refine ForK.nxt ?_ ?_ ?_
        · omega
        · exact Ghost.kp [1, 2, 8, 9] [2] (by simp only [go_sem, hrun, he, hs, hs1]; first | ((repeat' (first | with_reducible_and_instances rfl | refine st_eq ?_ ?_ ?_ | refine ret_eq ?_ | refine tup_eq ?_ | refine tm_eq ?_ ?_ | refine arr_eq ?_ | refine cells_eq ?_ | refine val_eq ?_ | refine ls_eq ?_ ?_ | refine own_eq ?_ ?_ | refine sl_eq ?_ | refine b_eq ?_ | (refine i_eq ?_; omega))); (all_goals (first | omega | (simp; omega)))) | rfl)
        · trivial
      · skip
        have hke : k = l.length := by have := ge_of_dec hb23; omega
        subst hke
        have hb1 := sum_bnd hlb
        have e : (r.start + sumD l) % turnD r.drums = totalD r l := rfl
        refine Exec.exitS ?_
        refine ForK.ext ?_
        refine BlkK.hit ?_
        refine Exec.reg ?_
        iterate 3 (refine Run.op (by simp only [go_sem, hrun, he, List.take_length, e] <;> rfl) (by simp only [go_sem] <;> rfl) ?_)
        refine Run.cal (c_meterworksref02_Turn r.drums (by omega)) (by simp only [go_sem]) (by simp only [go_sem, hrun, he, List.take_length, e] <;> rfl) (by exact ⟨by first | exact WkR.pure rfl | exact WkR.nil _ | exact WkR.int (by first | omega | (simp; done) | (simp; omega)), trivial⟩) (fr0) (by simp only [go_sem, hrun, he, List.take_length, e] <;> rfl) ?_
        refine Run.cal (c_meterworksref02_modulo (r.start + sumD l) (turnD r.drums) (by omega) (by omega)) (by simp only [go_sem]) (by simp only [go_sem, hrun, he, List.take_length, e] <;> rfl) (by exact ⟨by first | exact WkR.pure rfl | exact WkR.nil _ | exact WkR.int (by first | omega | (simp; done) | (simp; omega)), by first | exact WkR.pure rfl | exact WkR.nil _ | exact WkR.int (by first | omega | (simp; done) | (simp; omega)), trivial⟩) (fr0) (by simp only [go_sem, hrun, he, List.take_length, e] <;> rfl) ?_
        refine Run.op (by simp only [go_sem, hrun, he, List.take_length, e] <;> rfl) (by simp only [go_sem] <;> rfl) ?_
        refine Run.nil ?_
        refine Exec.reg ?_
        refine Run.op (by simp only [go_sem, hrun, he, List.take_length, e] <;> rfl) (by simp only [go_sem] <;> rfl) ?_
        refine Run.nil ?_
        refine Exec.assocS ?_
        refine Exec.reg ?_
        refine Run.nilo 10 1000 3 1 (by simp only [go_sem] <;> rfl) (by simp only [go_sem] <;> rfl) (by omega) (by omega) (by simp only [go_sem] <;> rfl) ?_
        refine Run.op (by simp only [go_sem, hrun, he, List.take_length, e] <;> rfl) (by simp only [go_sem] <;> rfl) ?_
        refine Run.nil ?_
        refine Exec.blk ?_
        refine Exec.forA [2, 8, 10, 11] [2, 1000] (r.drums.toNat) (fun k => [.slot 11 (.int k), .slot 10 (.leaf (.own 1000 0 ((placesD k (totalD r l)).map figD).length ((placesD k (totalD r l)).map figD).length)), .obj 1000 (.arr 3 1 (((placesD k (totalD r l)).map figD).map encInt))]) (fun _ => True) (fun k => by simp only [go_sem] <;> rfl) (by simp only [go_sem, hrun, he, List.take_length, e, Int.natCast_zero, fig_zero] <;> rfl) ?_ (fun k hk hX => ?_)
        · trivial
        · skip
          refine Exec.assocS ?_
          refine Exec.reg ?_
          iterate 4 (refine Run.op (by simp only [go_sem, hrun, he, List.take_length, e] <;> rfl) (by simp only [go_sem] <;> rfl) ?_)
          refine Run.nil ?_
          refine Exec.cndS (by simp only [go_sem, hrun, he, List.take_length, e] <;> rfl) (fun hb40 => ?_) (fun hb40 => ?_)
          · skip
            have hlt : k < r.drums.toNat := by have := of_decide_eq_true hb40; omega
            have hsu := places_succ k (totalD r l)
            have hlen := places_len k (totalD r l)
            have hpb := place_bnd (totalD r l) k
            have e1 : (placeD (totalD r l) k + 500).tdiv 1000 = (placeD (totalD r l) k + 500) / 1000 := tdiv_e (by omega)
            have e2 : ((placeD (totalD r l) k + 500) / 1000).tmod 10 = figD (placeD (totalD r l) k) := tmod_e (by omega)
            refine Exec.skipS ?_
            refine Exec.blk ?_
            refine Exec.reg1 ?_
            iterate 3 (refine Run.op (by simp only [go_sem, hrun, he, List.take_length, e, e1, e2] <;> rfl) (by simp only [go_sem] <;> rfl) ?_)
            refine Run.cal (c_meterworksref02_Place k (by omega) (totalD r l) (by omega)) (by simp only [go_sem]) (by simp only [go_sem, hrun, he, List.take_length, e, e1, e2] <;> rfl) (by exact ⟨by first | exact WkR.pure rfl | exact WkR.nil _ | exact WkR.int (by first | omega | (simp; done) | (simp; omega)), by first | exact WkR.pure rfl | exact WkR.nil _ | exact WkR.int (by first | omega | (simp; done) | (simp; omega)), trivial⟩) (fr0) (by simp only [go_sem, hrun, he, List.take_length, e, e1, e2] <;> rfl) ?_
            refine Run.op (by simp only [go_sem, hrun, he, List.take_length, e, e1, e2]; (try simp (disch := omega) only [IntWalk.i64_in, IntWalk.u64_in, if_neg, if_pos])<;> rfl) (by simp only [go_sem] <;> rfl) ?_
            refine Run.op (by simp only [go_sem, hrun, he, List.take_length, e, e1, e2]; (try simp (disch := omega) only [IntWalk.i64_in, IntWalk.u64_in, if_neg, if_pos])<;> rfl) (by simp only [go_sem] <;> rfl) ?_
            refine Run.op (by simp only [go_sem, hrun, he, List.take_length, e, e1, e2]; (try simp (disch := omega) only [IntWalk.i64_in, IntWalk.u64_in, if_neg, if_pos])<;> rfl) (by simp only [go_sem] <;> rfl) ?_
            refine Run.op (by simp only [go_sem, hrun, he, List.take_length, e, e1, e2] <;> rfl) (by simp only [go_sem] <;> rfl) ?_
            refine Run.op (by simp only [go_sem, hrun, he, List.take_length, e, e1, e2]; (try simp (disch := omega) only [if_pos]); (try simp only [go_sem, hrun, he, List.take_length, e, e1, e2]) <;> first | (refine ite_run ⟨by (try simp only [List.length_append, List.length_drop, List.length_take, List.length_map, List.length_cons, List.length_nil, List.length_replicate, List.length_set, List.length_range, Nat.zero_add]); omega, by (try simp only [List.length_append, List.length_drop, List.length_take, List.length_map, List.length_cons, List.length_nil, List.length_replicate, List.length_set, List.length_range, Nat.zero_add]); omega, by repeat (first | exact al_nil | assumption | refine al_app ?_ ?_ | refine al_drop ?_ | refine al_take ?_ | exact al_map (fun _ => rfl) | exact al_rep rfl | refine al_cons rfl ?_)⟩ ?_; simp only [go_sem, hrun, he, List.take_length, e, e1, e2] <;> rfl) | (refine ite_run ⟨by (try simp only [List.length_append, List.length_drop, List.length_take, List.length_map, List.length_cons, List.length_nil, List.length_replicate, List.length_set, List.length_range, Nat.zero_add]); omega, by repeat (first | exact al_nil | assumption | refine al_app ?_ ?_ | refine al_drop ?_ | refine al_take ?_ | exact al_map (fun _ => rfl) | exact al_rep rfl | refine al_cons rfl ?_)⟩ ?_; simp only [go_sem, hrun, he, List.take_length, e, e1, e2] <;> rfl) | rfl) (by simp only [go_sem] <;> rfl) ?_
            refine Run.op (by simp only [go_sem, hrun, he, List.take_length, e, e1, e2] <;> rfl) (by simp only [go_sem] <;> rfl) ?_
            refine Run.nil ?_
            refine BlkK.nrm ?_
            refine Exec.reg1 ?_
            refine Run.op (by simp only [go_sem, hrun, he, List.take_length, e, e1, e2] <;> rfl) (by simp only [go_sem] <;> rfl) ?_
            refine Run.op (by simp only [go_sem, hrun, he, List.take_length, e, e1, e2]; (try simp (disch := omega) only [IntWalk.i64_in, IntWalk.u64_in, if_neg, if_pos])<;> rfl) (by simp only [go_sem] <;> rfl) ?_
            refine Run.op (by simp only [go_sem, hrun, he, List.take_length, e, e1, e2] <;> rfl) (by simp only [go_sem] <;> rfl) ?_
            refine Run.nil ?_
            refine ForK.nxt ?_ ?_ ?_
            · omega
            · exact Ghost.kp [2, 8, 10, 11] [2, 1000] (by simp only [go_sem, hrun, he, List.take_length, e, e1, e2]; first | ((repeat' (first | with_reducible_and_instances rfl | refine st_eq ?_ ?_ ?_ | refine ret_eq ?_ | refine tup_eq ?_ | refine tm_eq ?_ ?_ | refine arr_eq ?_ | refine cells_eq ?_ | refine val_eq ?_ | refine ls_eq ?_ ?_ | refine own_eq ?_ ?_ | refine sl_eq ?_ | refine b_eq ?_ | (refine i_eq ?_; omega))); (all_goals (simp [hsu, encInt]))) | rfl)
            · trivial
          · skip
            have hke : k = r.drums.toNat := by have := of_decide_eq_false hb40; omega
            subst hke
            have hpl := places_len r.drums.toNat (totalD r l)
            have hta : List.take r.drums.toNat (List.map encInt (List.map figD (placesD r.drums.toNat (totalD r l)))) = List.map encInt (List.map figD (placesD r.drums.toNat (totalD r l))) := List.take_of_length_le (by simp [places_len])
            refine Exec.exitS ?_
            refine ForK.ext ?_
            refine BlkK.hit ?_
            refine Exec.reg ?_
            refine Run.frz 1000 (by simp only [go_sem, hpl, hta] <;> rfl) ?_
            iterate 5 (refine Run.op (by simp only [go_sem, hrun, he, List.take_length, e] <;> rfl) (by simp only [go_sem] <;> rfl) ?_)
            refine Run.nil ?_
            exact Ends.fin [] (rs := [.tmp 4, .tmp 5, .tmp 6]) rfl (by simp only [go_sem, hrun, he, List.take_length, e] <;> rfl) (by simp only [go_sem, hrun, he, List.take_length, e] <;> first | rfl | ((repeat' (first | with_reducible_and_instances rfl | refine st_eq ?_ ?_ ?_ | refine ret_eq ?_ | refine tup_eq ?_ | refine tm_eq ?_ ?_ | refine arr_eq ?_ | refine cells_eq ?_ | refine val_eq ?_ | refine ls_eq ?_ ?_ | refine own_eq ?_ ?_ | refine sl_eq ?_ | refine b_eq ?_ | (refine i_eq ?_; omega))); done))

end Go.Mw

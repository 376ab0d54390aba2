/- Contracts of the card: all repairs that can be made. -/
import Derived.Test.YtfmdonllhchdpaaB8
set_option linter.unusedSimpArgs false
set_option linter.unusedVariables false
set_option linter.unusedSectionVars false
set_option linter.deprecated false
namespace Go.Mw
open Go.Proofs
set_option maxRecDepth 20000 in
/-- meterworks/card.repairs -/
theorem c_card_repairs (w : Walk) : Contract Try.prog 60 [walkV w] (.leaf (.d (.fn 66 [.pt (walkD w)]))) [] := by
  refine con_of follows_mixed Try.func60 rfl (by simp only [List.length_cons, List.length_nil, Try.ntmps60]; omega) (by kernel_rfl) rfl ?_
  refine Exec.reg ?_
  iterate 2 (refine Run.op (by simp only [go_sem] <;> rfl) (by simp only [go_sem] <;> rfl) ?_)
  refine Run.nil ?_
  refine Exec.reg ?_
  refine Run.frz 1 (by simp only [go_sem] <;> rfl) ?_
  iterate 2 (refine Run.op (by simp only [go_sem] <;> rfl) (by simp only [go_sem] <;> rfl) ?_)
  refine Run.nil ?_
  exact Ends.fin [] (rs := [.tmp 2]) rfl (by simp only [go_sem] <;> rfl) (by simp only [go_sem] <;> first | rfl | ((repeat' (first | with_reducible_and_instances rfl | refine st_eq ?_ ?_ ?_ | refine ret_eq ?_ | refine tup_eq ?_ | refine tm_eq ?_ ?_ | refine arr_eq ?_ | refine cells_eq ?_ | refine val_eq ?_ | refine ls_eq ?_ ?_ | refine own_eq ?_ ?_ | refine sl_eq ?_ | refine b_eq ?_ | (refine i_eq ?_; omega))); done))

theorem kp_entB0 (w : Walk) {f : AL → AL} (hf : ∀ x, f (.d x) = .d x) : ∀ l : List (Nat × Nat), (entB w l).map (fun p => (p.1, p.2.1, p.2.2.map f)) = entB w l
  | [] => rfl
  | p :: r => by
    have ih := kp_entB0 w hf r
    simp only [entB, List.map_cons, ih, hf, List.map_nil]
@[go_sem] theorem kp_entB (w : Walk) {f : AL → AL} (hf : (fun x => f (AL.d x)) = AL.d) (l : List (Nat × Nat)) : (entB w l).map (fun p => (p.1, p.2.1, p.2.2.map f)) = entB w l := kp_entB0 w (congrFun hf) l
theorem entB_nil (w : Walk) : entB w [] = [] := rfl
theorem befE_zero (w : Walk) : befE w 0 = [] := rfl
theorem be_next (w : Walk) (k : Nat) : befE w (k + 1) = befE w k ++ (pairsL (ofS w (k : Int))).take ((ofV w (k : Int)).length - 1) := by
  rw [ofV_len, ← len_pairs, List.take_length]
  unfold befE
  rw [List.range_succ, List.flatMap_append]; simp
theorem ent_next {w : Walk} {k j p i : Nat} (hp : (ofS w (k : Int))[j - 1]? = some p) (hi : (ofS w (k : Int))[j]? = some i) (hj : 0 < j) :
    entB w (befE w k ++ (pairsL (ofS w (k : Int))).take (j + 1 - 1)) = entB w (befE w k ++ (pairsL (ofS w (k : Int))).take (j - 1)) ++ [(.int .i64 (i : Int), true, [.d (.i (rd w p).house), .d (.i (rd w p).day), .d (.i (rd w p).shows)])] := by
  obtain ⟨j, rfl⟩ : ∃ j', j = j' + 1 := ⟨j - 1, by omega⟩
  have hg := pairs_get (l := ofS w (k : Int)) (k := j) hp hi
  have e : (pairsL (ofS w (k : Int))).take (j + 1 + 1 - 1) = (pairsL (ofS w (k : Int))).take (j + 1 - 1) ++ [(i, p)] := by
    rw [Nat.add_sub_cancel, Nat.add_sub_cancel, List.take_add_one, hg]; rfl
  rw [e, ← List.append_assoc, entB_app w (_ ++ _) [(i, p)]]
  rfl
def repV (l : List Rep) : List (List AV) := l.map fun r => [.leaf (.d (repD r))]
theorem lateL_yes {w : Walk} {a f d : Nat} (h : lateOk w a d = true) : lateL w a (f + 1) d = .lt a d :: lateL w a f (d + 1) := by rw [lateL, if_pos h]
theorem lateL_no {w : Walk} {a f d : Nat} (h : ¬ lateOk w a d = true) : lateL w a (f + 1) d = [] := by rw [lateL, if_neg h]
theorem kgs : keepG 900 = true ∧ keepG 25 = true ∧ keepG 43 = true ∧ keepG 5 = false ∧ keepG 42 = false ∧ keepG 7 = false := by decide
theorem khs : keepH 900 = true ∧ keepH 25 = true ∧ keepH 7 = true := by decide
set_option maxRecDepth 20000 in
set_option maxHeartbeats 16000000 in
/-- meterworks/card.repairs_1 -/
theorem c_repairs_1 (w : Walk) (h1 : w.rates.length ≤ 1000) (h2 : w.readings.length ≤ 1000) (h20 : ∀ h, (ofS w h).length ≤ 39) (hw : walkB w = true) : Con Try.prog 66 [.leaf (.obj 900), .leaf (.d (.pt (walkD w)))] [(900, .yl)] (lB (repV (repsS w))) := by
  have l5 : ∀ k, look (obsG 3 0 (grpN w k)) 5 = none := fun k => look_low (by omega)
  have l7 : ∀ k, look (obsG 3 0 (grpN w k)) 7 = none := fun k => look_low (by omega)
  have l42 : ∀ k, look (obsG 3 0 (grpN w k)) 42 = none := fun k => look_low (by omega)
  have l43 : ∀ k, look (obsG 3 0 (grpN w k)) 43 = none := fun k => look_low (by omega)
  have l91 : ∀ k, look (obsG 3 0 (grpN w k)) 91 = none := fun k => look_low (by omega)
  have l11 : ∀ k, look (obsG 3 0 (grpN w k)) 11 = none := fun k => look_low (by omega)
  refine con_of follows_mixed Try.func66 rfl (by simp only [List.length_cons, List.length_nil, Try.ntmps66]; omega) (by kernel_rfl) rfl ?_
  refine Exec.reg ?_
  iterate 2 (refine Run.op (by simp only [go_sem, l5, l7, l42, l43, l91, l11] <;> rfl) (by simp only [go_sem] <;> rfl) ?_)
  refine Run.nil ?_
  refine Exec.assocS ?_
  refine Exec.reg ?_
  iterate 4 (refine Run.op (by simp only [go_sem, l5, l7, l42, l43, l91, l11] <;> rfl) (by simp only [go_sem] <;> rfl) ?_)
  refine Run.nil ?_
  refine Exec.blk ?_
  refine Exec.for (w.readings.length) (fun k => ⟨[(0, .leaf (.obj 900)), (1, .leaf (.d (.pt (walkD w)))), (3, .leaf (.obj 25)), (27, .leaf (.d (.sl 3 (w.readings.map encReading)))), (28, .int w.readings.length), (29, .int k)], (900, .yl) :: (25, .map (entG 0 (grpN w k))) :: obsG 3 0 (grpN w k), lB (repV (repsS w))⟩) (fun _ => True) ?_ ?_ (fun k hk hX => ?_)
  · exact Ghost.trans (Ghost.kpp [0, 1, 3, 27, 28, 29] keepG (by simp only [go_sem, kp_obs kg_i, kp_ent kg_i, kgs.1, kgs.2.1, kgs.2.2.1, kgs.2.2.2.1, kgs.2.2.2.2.1, kgs.2.2.2.2.2, kg_i, Bool.false_eq_true, if_false, List.map_append] <;> rfl)) (Ghost.ob (fun o => look_swap (by omega)))
  · trivial
  · skip
    refine Exec.reg ?_
    refine Run.op (by simp only [go_sem, l5, l7, l42, l43, l91, l11] <;> rfl) (by simp only [go_sem] <;> rfl) ?_
    refine Run.nil ?_
    refine Exec.cndS (by simp only [go_sem, l5, l7, l42, l43, l91, l11] <;> rfl) (fun hb30 => ?_) (fun hb30 => ?_)
    · skip
      have hlt := lt_of_dec hb30
      have hs := rd_get hlt
      refine Exec.skipS ?_
      refine Exec.blk ?_
      refine Exec.reg ?_
      refine Run.op (by simp only [go_sem, l5, l7, l42, l43, l91, l11, hs] <;> rfl) (by simp only [go_sem] <;> rfl) ?_
      refine Run.op (by simp only [go_sem, l5, l7, l42, l43, l91, l11, hs]; (try simp (disch := omega) only [if_pos]); (try simp only [go_sem, l5, l7, l42, l43, l91, l11, hs])<;> rfl) (by simp only [go_sem] <;> rfl) ?_
      iterate 4 (refine Run.op (by simp only [go_sem, l5, l7, l42, l43, l91, l11, hs] <;> rfl) (by simp only [go_sem] <;> rfl) ?_)
      refine Run.nil ?_
      by_cases hf : ∃ p, firstG (rd w k).day (grpN w k) = some p
      · skip
        obtain ⟨⟨i, l⟩, hf⟩ := hf
        have hG := look_got (e := 3) (first_some hf)
        have hll : l.length ≤ 1000 := by
          have := first_list w (rd w k).day k
          rw [hf] at this
          simp only [Option.map_some, Option.getD_some] at this
          rw [this]
          exact Nat.le_trans (List.length_filter_le _ _) (by simp; omega)
        have hset := set_some (x := k) (j := 0) hf
        rw [Nat.add_zero] at hset
        refine Exec.opk1 13 ?_
        refine OpenK.op (by simp only [go_sem, l5, l7, l42, l43, l91, l11, hs, get_ent, hf, Nat.add_zero, hG, hset] <;> rfl) (by simp only [go_sem] <;> rfl) (by simp only [go_sem] <;> rfl) ?_
        refine OpenK.op (by simp only [go_sem, l5, l7, l42, l43, l91, l11, hs, get_ent, hf, Nat.add_zero, hG, hset] <;> rfl) (by simp only [go_sem] <;> rfl) (by simp only [go_sem] <;> rfl) ?_
        refine OpenK.op (by simp only [go_sem, l5, l7, l42, l43, l91, l11, hs, get_ent, hf, Nat.add_zero, hG, hset] <;> rfl) (by simp only [go_sem] <;> rfl) (by simp only [go_sem] <;> rfl) ?_
        refine OpenK.op (by simp only [go_sem, l5, l7, l42, l43, l91, l11, hs, get_ent, hf, Nat.add_zero, hG, hset] <;> rfl) (by simp only [go_sem] <;> rfl) (by simp only [go_sem] <;> rfl) ?_
        refine OpenK.op (by simp only [go_sem, l5, l7, l42, l43, l91, l11, hs, get_ent, hf, Nat.add_zero, hG, hset] <;> rfl) (by simp only [go_sem] <;> rfl) (by simp only [go_sem] <;> rfl) ?_
        refine OpenK.op (by simp only [go_sem, l5, l7, l42, l43, l91, l11, hs, get_ent, hf, Nat.add_zero, hG, hset] <;> rfl) (by simp only [go_sem] <;> rfl) (by simp only [go_sem] <;> rfl) ?_
        refine OpenK.op (by simp only [go_sem, l5, l7, l42, l43, l91, l11, hs, get_ent, hf, Nat.add_zero, hG, hset] <;> rfl) (by simp only [go_sem] <;> rfl) (by simp only [go_sem] <;> rfl) ?_
        refine OpenK.op (by simp only [go_sem, l5, l7, l42, l43, l91, l11, hs, get_ent, hf, Nat.add_zero, hG, hset] <;> rfl) (by simp only [go_sem] <;> rfl) (by simp only [go_sem] <;> rfl) ?_
        refine OpenK.op (by simp only [go_sem, l5, l7, l42, l43, l91, l11, hs, get_ent, hf, Nat.add_zero, hG, hset] <;> rfl) (by simp only [go_sem] <;> rfl) (by simp only [go_sem] <;> rfl) ?_
        refine OpenK.op (by simp only [go_sem, l5, l7, l42, l43, l91, l11, hs, get_ent, hf, Nat.add_zero, hG, hset]; (try simp (disch := omega) only [if_pos]); (try simp only [go_sem, l5, l7, l42, l43, l91, l11, hs, get_ent, hf, Nat.add_zero, hG, hset]) <;> first | (refine ite_run ⟨by (try simp only [List.length_append, List.length_drop, List.length_take, List.length_map, List.length_cons, List.length_nil, List.length_replicate, List.length_set, List.length_range, Nat.zero_add]); omega, by (try simp only [List.length_append, List.length_drop, List.length_take, List.length_map, List.length_cons, List.length_nil, List.length_replicate, List.length_set, List.length_range, Nat.zero_add]); omega, by repeat (first | exact al_nil | assumption | refine al_app ?_ ?_ | refine al_drop ?_ | refine al_take ?_ | exact al_map (fun _ => rfl) | exact al_rep rfl | refine al_cons rfl ?_)⟩ ?_; simp only [go_sem, l5, l7, l42, l43, l91, l11, hs, get_ent, hf, Nat.add_zero, hG, hset] <;> rfl) | (refine ite_run ⟨by (try simp only [List.length_append, List.length_drop, List.length_take, List.length_map, List.length_cons, List.length_nil, List.length_replicate, List.length_set, List.length_range, Nat.zero_add]); omega, by repeat (first | exact al_nil | assumption | refine al_app ?_ ?_ | refine al_drop ?_ | refine al_take ?_ | exact al_map (fun _ => rfl) | exact al_rep rfl | refine al_cons rfl ?_)⟩ ?_; simp only [go_sem, l5, l7, l42, l43, l91, l11, hs, get_ent, hf, Nat.add_zero, hG, hset] <;> rfl) | rfl) (by simp only [go_sem] <;> rfl) (by simp only [go_sem] <;> rfl) ?_
        refine OpenK.op (by simp only [go_sem, l5, l7, l42, l43, l91, l11, hs, get_ent, hf, Nat.add_zero, hG, hset] <;> rfl) (by simp only [go_sem] <;> rfl) (by simp only [go_sem] <;> rfl) ?_
        refine OpenK.nil (OpenE.fin (by kernel_rfl) (by kernel_rfl) ?_)
        refine BlkK.nrm ?_
        refine Exec.reg1 ?_
        refine Run.op (by simp only [go_sem, l5, l7, l42, l43, l91, l11, hs, get_ent, hf, Nat.add_zero, hG, hset]; (try simp (disch := omega) only [IntWalk.i64_in, IntWalk.u64_in, if_neg, if_pos])<;> rfl) (by simp only [go_sem] <;> rfl) ?_
        refine Run.op (by simp only [go_sem, l5, l7, l42, l43, l91, l11, hs, get_ent, hf, Nat.add_zero, hG, hset] <;> rfl) (by simp only [go_sem] <;> rfl) ?_
        refine Run.nil ?_
        refine ForK.nxt ?_ ?_ ?_
        · omega
        · exact Ghost.trans (Ghost.kpp [0, 1, 3, 27, 28, 29] keepG (by simp only [go_sem, kp_obs kg_i, kp_ent kg_i, kgs.1, kgs.2.1, kgs.2.2.1, kgs.2.2.2.1, kgs.2.2.2.2.1, kgs.2.2.2.2.2, kg_i, Bool.false_eq_true, if_false, List.map_append] <;> rfl)) (grp_some hf)
        · trivial
      · skip
        have hf : firstG (rd w k).day (grpN w k) = none := by
          cases h : firstG (rd w k).day (grpN w k) with
          | none => rfl
          | some p => exact absurd ⟨p, h⟩ hf
        have hset := fun v => set_none (x := v) (j := 0) hf
        refine Exec.opk1 13 ?_
        refine OpenK.op (by simp only [go_sem, l5, l7, l42, l43, l91, l11, hs, get_ent, hf, Nat.add_zero, hset] <;> rfl) (by simp only [go_sem] <;> rfl) (by simp only [go_sem] <;> rfl) ?_
        refine OpenK.op (by simp only [go_sem, l5, l7, l42, l43, l91, l11, hs, get_ent, hf, Nat.add_zero, hset] <;> rfl) (by simp only [go_sem] <;> rfl) (by simp only [go_sem] <;> rfl) ?_
        refine OpenK.op (by simp only [go_sem, l5, l7, l42, l43, l91, l11, hs, get_ent, hf, Nat.add_zero, hset] <;> rfl) (by simp only [go_sem] <;> rfl) (by simp only [go_sem] <;> rfl) ?_
        refine OpenK.op (by simp only [go_sem, l5, l7, l42, l43, l91, l11, hs, get_ent, hf, Nat.add_zero, hset] <;> rfl) (by simp only [go_sem] <;> rfl) (by simp only [go_sem] <;> rfl) ?_
        refine OpenK.op (by simp only [go_sem, l5, l7, l42, l43, l91, l11, hs, get_ent, hf, Nat.add_zero, hset] <;> rfl) (by simp only [go_sem] <;> rfl) (by simp only [go_sem] <;> rfl) ?_
        refine OpenK.op (by simp only [go_sem, l5, l7, l42, l43, l91, l11, hs, get_ent, hf, Nat.add_zero, hset] <;> rfl) (by simp only [go_sem] <;> rfl) (by simp only [go_sem] <;> rfl) ?_
        refine OpenK.op (by simp only [go_sem, l5, l7, l42, l43, l91, l11, hs, get_ent, hf, Nat.add_zero, hset] <;> rfl) (by simp only [go_sem] <;> rfl) (by simp only [go_sem] <;> rfl) ?_
        refine OpenK.op (by simp only [go_sem, l5, l7, l42, l43, l91, l11, hs, get_ent, hf, Nat.add_zero, hset] <;> rfl) (by simp only [go_sem] <;> rfl) (by simp only [go_sem] <;> rfl) ?_
        refine OpenK.op (by simp only [go_sem, l5, l7, l42, l43, l91, l11, hs, get_ent, hf, Nat.add_zero, hset] <;> rfl) (by simp only [go_sem] <;> rfl) (by simp only [go_sem] <;> rfl) ?_
        refine OpenK.op (by simp only [go_sem, l5, l7, l42, l43, l91, l11, hs, get_ent, hf, Nat.add_zero, hset]; (try simp (disch := omega) only [if_pos]); (try simp only [go_sem, l5, l7, l42, l43, l91, l11, hs, get_ent, hf, Nat.add_zero, hset]) <;> first | (refine ite_run ⟨by (try simp only [List.length_append, List.length_drop, List.length_take, List.length_map, List.length_cons, List.length_nil, List.length_replicate, List.length_set, List.length_range, Nat.zero_add]); omega, by (try simp only [List.length_append, List.length_drop, List.length_take, List.length_map, List.length_cons, List.length_nil, List.length_replicate, List.length_set, List.length_range, Nat.zero_add]); omega, by repeat (first | exact al_nil | assumption | refine al_app ?_ ?_ | refine al_drop ?_ | refine al_take ?_ | exact al_map (fun _ => rfl) | exact al_rep rfl | refine al_cons rfl ?_)⟩ ?_; simp only [go_sem, l5, l7, l42, l43, l91, l11, hs, get_ent, hf, Nat.add_zero, hset] <;> rfl) | (refine ite_run ⟨by (try simp only [List.length_append, List.length_drop, List.length_take, List.length_map, List.length_cons, List.length_nil, List.length_replicate, List.length_set, List.length_range, Nat.zero_add]); omega, by repeat (first | exact al_nil | assumption | refine al_app ?_ ?_ | refine al_drop ?_ | refine al_take ?_ | exact al_map (fun _ => rfl) | exact al_rep rfl | refine al_cons rfl ?_)⟩ ?_; simp only [go_sem, l5, l7, l42, l43, l91, l11, hs, get_ent, hf, Nat.add_zero, hset] <;> rfl) | rfl) (by simp only [go_sem] <;> rfl) (by simp only [go_sem] <;> rfl) ?_
        refine OpenK.op (by simp only [go_sem, l5, l7, l42, l43, l91, l11, hs, get_ent, hf, Nat.add_zero, hset] <;> rfl) (by simp only [go_sem] <;> rfl) (by simp only [go_sem] <;> rfl) ?_
        refine OpenK.nil (OpenE.fin (by kernel_rfl) (by kernel_rfl) ?_)
        refine BlkK.nrm ?_
        refine Exec.reg1 ?_
        refine Run.op (by simp only [go_sem, l5, l7, l42, l43, l91, l11, hs, get_ent, hf, Nat.add_zero, hset]; (try simp (disch := omega) only [IntWalk.i64_in, IntWalk.u64_in, if_neg, if_pos])<;> rfl) (by simp only [go_sem] <;> rfl) ?_
        refine Run.op (by simp only [go_sem, l5, l7, l42, l43, l91, l11, hs, get_ent, hf, Nat.add_zero, hset] <;> rfl) (by simp only [go_sem] <;> rfl) ?_
        refine Run.nil ?_
        refine ForK.nxt ?_ ?_ ?_
        · omega
        · exact Ghost.trans (Ghost.kpp [0, 1, 3, 27, 28, 29] keepG (by simp only [go_sem, kp_obs kg_i, kp_ent kg_i, kgs.1, kgs.2.1, kgs.2.2.1, kgs.2.2.2.1, kgs.2.2.2.2.1, kgs.2.2.2.2.2, kg_i, Bool.false_eq_true, if_false, List.map_append] <;> rfl)) (grp_none hf rfl ⟨_, rfl⟩)
        · trivial
    · skip
      have hek : k = w.readings.length := by have := ge_of_dec hb30; omega
      subst hek
      refine Exec.exitS ?_
      refine ForK.ext ?_
      refine BlkK.hit ?_
      refine Exec.assocS ?_
      refine Exec.reg ?_
      iterate 4 (refine Run.op (by simp only [go_sem, l5, l7, l42, l43, l91, l11] <;> rfl) (by simp only [go_sem] <;> rfl) ?_)
      refine Run.nil ?_
      refine Exec.blk ?_
      refine Exec.for (w.readings.length) (fun k => ⟨[(0, .leaf (.obj 900)), (1, .leaf (.d (.pt (walkD w)))), (3, .leaf (.obj 25)), (46, .leaf (.d (.sl 3 (w.readings.map encReading)))), (47, .int w.readings.length), (48, .int k)], (900, .yl) :: (25, .map (entG 0 (grpN w w.readings.length))) :: obsG 3 0 (grpN w w.readings.length), lB (repV (swapsF w k (w.readings.length - k) ++ (copiesF w 0 w.readings.length ++ latesF w 0 w.readings.length)))⟩) (fun _ => True) ?_ ?_ (fun k hk hX => ?_)
      · exact Ghost.kpp [0, 1, 3, 46, 47, 48] keepG (by simp only [go_sem, kp_obs kg_i, kp_ent kg_i, kgs.1, kgs.2.1, kgs.2.2.1, kgs.2.2.2.1, kgs.2.2.2.2.1, kgs.2.2.2.2.2, kg_i, Bool.false_eq_true, if_false, List.map_append] <;> rfl)
      · trivial
      · skip
        refine Exec.reg ?_
        refine Run.op (by simp only [go_sem, l5, l7, l42, l43, l91, l11] <;> rfl) (by simp only [go_sem] <;> rfl) ?_
        refine Run.nil ?_
        refine Exec.cndS (by simp only [go_sem, l5, l7, l42, l43, l91, l11] <;> rfl) (fun hb49 => ?_) (fun hb49 => ?_)
        · skip
          have hlt := lt_of_dec hb49
          have hs := rd_get hlt
          obtain ⟨i, hf⟩ := first_has hlt
          have hG := look_got (e := 3) (first_some hf)
          have e1 := swapsF_step hlt
          have hrk := read_ok hw hlt
          refine Exec.skipS ?_
          refine Exec.blk ?_
          refine Exec.reg ?_
          refine Run.op (by simp only [go_sem, l5, l7, l42, l43, l91, l11, hs, get_ent, hf, Nat.add_zero, hG] <;> rfl) (by simp only [go_sem] <;> rfl) ?_
          refine Run.op (by simp only [go_sem, l5, l7, l42, l43, l91, l11, hs, get_ent, hf, Nat.add_zero, hG]; (try simp (disch := omega) only [if_pos]); (try simp only [go_sem, l5, l7, l42, l43, l91, l11, hs, get_ent, hf, Nat.add_zero, hG])<;> rfl) (by simp only [go_sem] <;> rfl) ?_
          iterate 4 (refine Run.op (by simp only [go_sem, l5, l7, l42, l43, l91, l11, hs, get_ent, hf, Nat.add_zero, hG] <;> rfl) (by simp only [go_sem] <;> rfl) ?_)
          refine Run.nil ?_
          refine Exec.reg ?_
          iterate 6 (refine Run.op (by simp only [go_sem, l5, l7, l42, l43, l91, l11, hs, get_ent, hf, Nat.add_zero, hG] <;> rfl) (by simp only [go_sem] <;> rfl) ?_)
          refine Run.nil ?_
          refine Exec.blk1 ?_
          refine Exec.for ((sameDay w (rd w k).day w.readings.length).length) (fun j => ⟨[(0, .leaf (.obj 900)), (1, .leaf (.d (.pt (walkD w)))), (3, .leaf (.obj 25)), (6, .int k), (7, .leaf (.ptr 7 0)), (46, .leaf (.d (.sl 3 (w.readings.map encReading)))), (47, .int w.readings.length), (48, .int k), (56, .leaf (.own (i + 2000) 0 (sameDay w (rd w k).day w.readings.length).length (sameDay w (rd w k).day w.readings.length).length)), (57, .int (sameDay w (rd w k).day w.readings.length).length), (58, .int j)], (7, .cells [.d (.i (rd w k).house), .d (.i (rd w k).day), .d (.i (rd w k).shows)]) :: (900, .yl) :: (25, .map (entG 0 (grpN w w.readings.length))) :: obsG 3 0 (grpN w w.readings.length), lB (repV (swapR w k ((sameDay w (rd w k).day w.readings.length).drop j) ++ (swapsF w (k + 1) (w.readings.length - (k + 1)) ++ (copiesF w 0 w.readings.length ++ latesF w 0 w.readings.length))))⟩) (fun _ => True) ?_ ?_ (fun j hj Xj => ?_)
          · exact Ghost.trans (Ghost.kpp [0, 1, 3, 6, 7, 46, 47, 48, 56, 57, 58] keepH (by simp only [go_sem, kp_obs kh_i, kp_ent kh_i, khs.1, khs.2.1, khs.2.2, kh_i, e1, List.append_assoc, List.drop_zero] <;> rfl)) (Ghost.ob (fun o => look_dup))
          · trivial
          · skip
            refine Exec.reg ?_
            refine Run.op (by simp only [go_sem, l5, l7, l42, l43, l91, l11, hs, get_ent, hf, Nat.add_zero, hG] <;> rfl) (by simp only [go_sem] <;> rfl) ?_
            refine Run.nil ?_
            refine Exec.cndS (by simp only [go_sem, l5, l7, l42, l43, l91, l11, hs, get_ent, hf, Nat.add_zero, hG] <;> rfl) (fun hb59 => ?_) (fun hb59 => ?_)
            · skip
              have hjl := lt_of_dec hb59
              obtain ⟨b, hb⟩ := elem_of hb59
              have hbm := mem_sameDay.1 (List.mem_of_getElem? hb)
              have hsb := rd_get hbm.1
              have hrb := read_ok hw hbm.1
              have hdr := drop_get hb
              have hmul := i64_mul (a := (rd w k).house - (rd w b).house) (b := (rd w k).house - (rd w b).house) (by omega) (by omega)
              have hsl : (sameDay w (rd w k).day w.readings.length).length ≤ 1000 := Nat.le_trans (List.length_filter_le _ _) (by simp; omega)
              refine Exec.skipS ?_
              refine Exec.blk ?_
              refine Exec.reg ?_
              refine Run.op (by simp only [go_sem, l5, l7, l42, l43, l91, l11, hs, get_ent, hf, Nat.add_zero, hG, hb, hsb, hmul]; (try simp (disch := omega) only [if_pos]); (try simp only [go_sem, l5, l7, l42, l43, l91, l11, hs, get_ent, hf, Nat.add_zero, hG, hb, hsb, hmul])<;> rfl) (by simp only [go_sem] <;> rfl) ?_
              iterate 2 (refine Run.op (by simp only [go_sem, l5, l7, l42, l43, l91, l11, hs, get_ent, hf, Nat.add_zero, hG, hb, hsb, hmul] <;> rfl) (by simp only [go_sem] <;> rfl) ?_)
              refine Run.nil ?_
              refine Exec.opk 12 ?_
              refine OpenK.op (by simp only [go_sem, l5, l7, l42, l43, l91, l11, hs, get_ent, hf, Nat.add_zero, hG, hb, hsb, hmul] <;> rfl) (by simp only [go_sem] <;> rfl) (by simp only [go_sem] <;> rfl) ?_
              refine OpenK.op (by simp only [go_sem, l5, l7, l42, l43, l91, l11, hs, get_ent, hf, Nat.add_zero, hG, hb, hsb, hmul] <;> rfl) (by simp only [go_sem] <;> rfl) (by simp only [go_sem] <;> rfl) ?_
              refine OpenK.op (by simp only [go_sem, l5, l7, l42, l43, l91, l11, hs, get_ent, hf, Nat.add_zero, hG, hb, hsb, hmul] <;> rfl) (by simp only [go_sem] <;> rfl) (by simp only [go_sem] <;> rfl) ?_
              refine OpenK.op (by simp only [go_sem, l5, l7, l42, l43, l91, l11, hs, get_ent, hf, Nat.add_zero, hG, hb, hsb, hmul] <;> rfl) (by simp only [go_sem] <;> rfl) (by simp only [go_sem] <;> rfl) ?_
              refine OpenK.op (by simp only [go_sem, l5, l7, l42, l43, l91, l11, hs, get_ent, hf, Nat.add_zero, hG, hb, hsb, hmul] <;> rfl) (by simp only [go_sem] <;> rfl) (by simp only [go_sem] <;> rfl) ?_
              refine OpenK.op (by simp only [go_sem, l5, l7, l42, l43, l91, l11, hs, get_ent, hf, Nat.add_zero, hG, hb, hsb, hmul]; (try simp (disch := omega) only [if_pos]); (try simp only [go_sem, l5, l7, l42, l43, l91, l11, hs, get_ent, hf, Nat.add_zero, hG, hb, hsb, hmul])<;> rfl) (by simp only [go_sem] <;> rfl) (by simp only [go_sem] <;> rfl) ?_
              refine OpenK.op (by simp only [go_sem, l5, l7, l42, l43, l91, l11, hs, get_ent, hf, Nat.add_zero, hG, hb, hsb, hmul] <;> rfl) (by simp only [go_sem] <;> rfl) (by simp only [go_sem] <;> rfl) ?_
              refine OpenK.op (by simp only [go_sem, l5, l7, l42, l43, l91, l11, hs, get_ent, hf, Nat.add_zero, hG, hb, hsb, hmul] <;> rfl) (by simp only [go_sem] <;> rfl) (by simp only [go_sem] <;> rfl) ?_
              refine OpenK.op (by simp only [go_sem, l5, l7, l42, l43, l91, l11, hs, get_ent, hf, Nat.add_zero, hG, hb, hsb, hmul]; (try simp (disch := omega) only [IntWalk.i64_in, IntWalk.u64_in, if_neg, if_pos])<;> rfl) (by simp only [go_sem] <;> rfl) (by simp only [go_sem] <;> rfl) ?_
              refine OpenK.op (by simp only [go_sem, l5, l7, l42, l43, l91, l11, hs, get_ent, hf, Nat.add_zero, hG, hb, hsb, hmul] <;> rfl) (by simp only [go_sem] <;> rfl) (by simp only [go_sem] <;> rfl) ?_
              refine OpenK.nil (OpenE.fin (by decide +kernel) (by decide +kernel) ?_)
              by_cases hsw : k < b ∧ ((rd w k).house - (rd w b).house) * ((rd w k).house - (rd w b).house) = 1
              · skip
                have hg : (decide ((b : Int) > (k : Int)) && ((rd w k).house - (rd w b).house) * ((rd w k).house - (rd w b).house) == 1) = true := by simp [hsw.1, hsw.2]
                refine Exec.reg ?_
                iterate 4 (refine Run.op (by simp only [go_sem, l5, l7, l42, l43, l91, l11, hs, get_ent, hf, Nat.add_zero, hG, hb, hsb, hmul, hg] <;> rfl) (by simp only [go_sem] <;> rfl) ?_)
                refine Run.gop (by simp only [go_sem] <;> rfl) (by simp only [go_sem, l5, l7, l42, l43, l91, l11, hs, get_ent, hf, Nat.add_zero, hG, hb, hsb, hmul, hg] <;> rfl) (by simp only [go_sem] <;> rfl) ?_
                refine Run.gop (by simp only [go_sem] <;> rfl) (by simp only [go_sem, l5, l7, l42, l43, l91, l11, hs, get_ent, hf, Nat.add_zero, hG, hb, hsb, hmul, hg] <;> rfl) (by simp only [go_sem] <;> rfl) ?_
                refine Run.gop (by simp only [go_sem] <;> rfl) (by simp only [go_sem, l5, l7, l42, l43, l91, l11, hs, get_ent, hf, Nat.add_zero, hG, hb, hsb, hmul, hg]; (try simp (disch := omega) only [IntWalk.i64_in, IntWalk.u64_in, if_neg, if_pos])<;> rfl) (by simp only [go_sem] <;> rfl) ?_
                refine Run.gop (by simp only [go_sem] <;> rfl) (by simp only [go_sem, l5, l7, l42, l43, l91, l11, hs, get_ent, hf, Nat.add_zero, hG, hb, hsb, hmul, hg] <;> rfl) (by simp only [go_sem] <;> rfl) ?_
                iterate 2 (refine Run.op (by simp only [go_sem, l5, l7, l42, l43, l91, l11, hs, get_ent, hf, Nat.add_zero, hG, hb, hsb, hmul, hg] <;> rfl) (by simp only [go_sem] <;> rfl) ?_)
                refine Run.yes (by simp only [go_sem] <;> rfl) (by simp only [go_sem, l5, l7, l42, l43, l91, l11, hs, get_ent, hf, Nat.add_zero, hG, hb, hsb, hmul, hg] <;> rfl) (by simp only [go_sem] <;> rfl) ?_
                refine Run.yes (by simp only [go_sem] <;> rfl) (by simp only [go_sem, l5, l7, l42, l43, l91, l11, hs, get_ent, hf, Nat.add_zero, hG, hb, hsb, hmul, hg] <;> rfl) (by simp only [go_sem] <;> rfl) ?_
                refine Run.yes (by simp only [go_sem] <;> rfl) (by simp only [go_sem, l5, l7, l42, l43, l91, l11, hs, get_ent, hf, Nat.add_zero, hG, hb, hsb, hmul, hg] <;> rfl) (by simp only [go_sem] <;> rfl) ?_
                refine Run.yes (by simp only [go_sem] <;> rfl) (by simp only [go_sem, l5, l7, l42, l43, l91, l11, hs, get_ent, hf, Nat.add_zero, hG, hb, hsb, hmul, hg] <;> rfl) (by simp only [go_sem] <;> rfl) ?_
                refine Run.yes (by simp only [go_sem] <;> rfl) (by simp only [go_sem, l5, l7, l42, l43, l91, l11, hs, get_ent, hf, Nat.add_zero, hG, hb, hsb, hmul, hg] <;> rfl) (by simp only [go_sem] <;> rfl) ?_
                refine Run.yldw (args := [.leaf (.d (repD (.sw k b)))]) (by simp only [go_sem] <;> rfl) (by simp only [go_sem] <;> rfl) (by simp only [go_sem] <;> rfl) (by simp only [go_sem] <;> rfl) (by exact ⟨WkP.refl rfl, trivial⟩) (by simp only [hdr, swapR_yes hsw, List.cons_append, List.nil_append, repV, List.map_cons, lB_cons] <;> rfl) (fun t => ?_)
                refine Run.yes (by simp only [go_sem] <;> rfl) (by simp only [go_sem, l5, l7, l42, l43, l91, l11, hs, get_ent, hf, Nat.add_zero, hG, hb, hsb, hmul, hg] <;> rfl) (by simp only [go_sem] <;> rfl) ?_
                refine Run.op (by simp only [go_sem, l5, l7, l42, l43, l91, l11, hs, get_ent, hf, Nat.add_zero, hG, hb, hsb, hmul, hg] <;> rfl) (by simp only [go_sem] <;> rfl) ?_
                refine Run.nil ?_
                refine Exec.cnd (by simp only [go_sem, l5, l7, l42, l43, l91, l11, hs, get_ent, hf, Nat.add_zero, hG, hb, hsb, hmul, hg] <;> rfl) (fun hb88 => ?_) (fun hb88 => ?_)
                · skip
                  have ht : t = false := by simpa using hb88
                  subst ht
                  refine BlkK.ret ?_
                  refine ForK.ret ?_
                  refine Blk1K.ret ?_
                  refine BlkK.ret ?_
                  refine ForK.ret ?_
                  refine BlkK.ret ?_
                  exact Ends.fin [] (rs := []) rfl (by simp only [go_sem, l5, l7, l42, l43, l91, l11, hs, get_ent, hf, Nat.add_zero, hG, hb, hsb, hmul, hg] <;> rfl) (by simp only [go_sem, l5, l7, l42, l43, l91, l11, hs, get_ent, hf, Nat.add_zero, hG, hb, hsb, hmul, hg] <;> first | rfl | ((repeat' (first | with_reducible_and_instances rfl | refine st_eq ?_ ?_ ?_ | refine ret_eq ?_ | refine tup_eq ?_ | refine tm_eq ?_ ?_ | refine arr_eq ?_ | refine cells_eq ?_ | refine val_eq ?_ | refine ls_eq ?_ ?_ | refine own_eq ?_ ?_ | refine sl_eq ?_ | refine b_eq ?_ | (refine i_eq ?_; omega))); done))
                · skip
                  have ht : t = true := by simpa using hb88
                  subst ht
                  refine BlkK.nrm ?_
                  refine Exec.reg1 ?_
                  refine Run.op (by simp only [go_sem, l5, l7, l42, l43, l91, l11, hs, get_ent, hf, Nat.add_zero, hG, hb, hsb, hmul, hg]; (try simp (disch := omega) only [IntWalk.i64_in, IntWalk.u64_in, if_neg, if_pos])<;> rfl) (by simp only [go_sem] <;> rfl) ?_
                  refine Run.op (by simp only [go_sem, l5, l7, l42, l43, l91, l11, hs, get_ent, hf, Nat.add_zero, hG, hb, hsb, hmul, hg] <;> rfl) (by simp only [go_sem] <;> rfl) ?_
                  refine Run.nil ?_
                  refine ForK.nxt ?_ ?_ ?_
                  · omega
                  · exact Ghost.kpp [0, 1, 3, 6, 7, 46, 47, 48, 56, 57, 58] keepH (by simp only [go_sem, kp_obs kh_i, kp_ent kh_i, khs.1, khs.2.1, khs.2.2, kh_i] <;> rfl)
                  · trivial
              · skip
                have hg : (decide ((b : Int) > (k : Int)) && ((rd w k).house - (rd w b).house) * ((rd w k).house - (rd w b).house) == 1) = false := by
                  rw [← Bool.not_eq_true]
                  intro hc
                  simp at hc
                  exact hsw hc
                have e : swapR w k ((sameDay w (rd w k).day w.readings.length).drop j) = swapR w k ((sameDay w (rd w k).day w.readings.length).drop (j + 1)) := by rw [hdr, swapR_no hsw]
                refine Exec.reg ?_
                iterate 4 (refine Run.op (by simp only [go_sem, l5, l7, l42, l43, l91, l11, hs, get_ent, hf, Nat.add_zero, hG, hb, hsb, hmul, hg] <;> rfl) (by simp only [go_sem] <;> rfl) ?_)
                refine Run.gop (by simp only [go_sem] <;> rfl) (by simp only [go_sem, l5, l7, l42, l43, l91, l11, hs, get_ent, hf, Nat.add_zero, hG, hb, hsb, hmul, hg] <;> rfl) (by simp only [go_sem] <;> rfl) ?_
                refine Run.gop (by simp only [go_sem] <;> rfl) (by simp only [go_sem, l5, l7, l42, l43, l91, l11, hs, get_ent, hf, Nat.add_zero, hG, hb, hsb, hmul, hg] <;> rfl) (by simp only [go_sem] <;> rfl) ?_
                refine Run.gop (by simp only [go_sem] <;> rfl) (by simp only [go_sem, l5, l7, l42, l43, l91, l11, hs, get_ent, hf, Nat.add_zero, hG, hb, hsb, hmul, hg]; (try simp (disch := omega) only [IntWalk.i64_in, IntWalk.u64_in, if_neg, if_pos])<;> rfl) (by simp only [go_sem] <;> rfl) ?_
                refine Run.gop (by simp only [go_sem] <;> rfl) (by simp only [go_sem, l5, l7, l42, l43, l91, l11, hs, get_ent, hf, Nat.add_zero, hG, hb, hsb, hmul, hg] <;> rfl) (by simp only [go_sem] <;> rfl) ?_
                iterate 2 (refine Run.op (by simp only [go_sem, l5, l7, l42, l43, l91, l11, hs, get_ent, hf, Nat.add_zero, hG, hb, hsb, hmul, hg] <;> rfl) (by simp only [go_sem] <;> rfl) ?_)
                refine Run.skp (by simp only [go_sem] <;> rfl) (by simp only [go_sem] <;> rfl) ?_
                refine Run.skp (by simp only [go_sem] <;> rfl) (by simp only [go_sem] <;> rfl) ?_
                refine Run.skp (by simp only [go_sem] <;> rfl) (by simp only [go_sem] <;> rfl) ?_
                refine Run.skp (by simp only [go_sem] <;> rfl) (by simp only [go_sem] <;> rfl) ?_
                refine Run.skp (by simp only [go_sem] <;> rfl) (by simp only [go_sem] <;> rfl) ?_
                refine Run.skp (by simp only [go_sem] <;> rfl) (by simp only [go_sem] <;> rfl) ?_
                refine Run.skp (by simp only [go_sem] <;> rfl) (by simp only [go_sem] <;> rfl) ?_
                refine Run.op (by simp only [go_sem, l5, l7, l42, l43, l91, l11, hs, get_ent, hf, Nat.add_zero, hG, hb, hsb, hmul, hg] <;> rfl) (by simp only [go_sem] <;> rfl) ?_
                refine Run.nil ?_
                refine Exec.cnd (by simp only [go_sem, l5, l7, l42, l43, l91, l11, hs, get_ent, hf, Nat.add_zero, hG, hb, hsb, hmul, hg] <;> rfl) (fun hb88 => ?_) (fun hb88 => ?_)
                · exact absurd hb88 (by simp)
                · skip
                  refine BlkK.nrm ?_
                  refine Exec.reg1 ?_
                  refine Run.op (by simp only [go_sem, l5, l7, l42, l43, l91, l11, hs, get_ent, hf, Nat.add_zero, hG, hb, hsb, hmul, hg]; (try simp (disch := omega) only [IntWalk.i64_in, IntWalk.u64_in, if_neg, if_pos])<;> rfl) (by simp only [go_sem] <;> rfl) ?_
                  refine Run.op (by simp only [go_sem, l5, l7, l42, l43, l91, l11, hs, get_ent, hf, Nat.add_zero, hG, hb, hsb, hmul, hg] <;> rfl) (by simp only [go_sem] <;> rfl) ?_
                  refine Run.nil ?_
                  refine ForK.nxt ?_ ?_ ?_
                  · omega
                  · exact Ghost.kpp [0, 1, 3, 6, 7, 46, 47, 48, 56, 57, 58] keepH (by simp only [go_sem, kp_obs kh_i, kp_ent kh_i, khs.1, khs.2.1, khs.2.2, kh_i, e] <;> rfl)
                  · trivial
            · skip
              have hd0 : (sameDay w (rd w k).day w.readings.length).drop j = [] := List.drop_eq_nil_of_le (ge_of_dec hb59)
              refine Exec.exitS ?_
              refine ForK.ext ?_
              refine Blk1K.hit ?_
              refine BlkK.nrm ?_
              refine Exec.reg1 ?_
              refine Run.op (by simp only [go_sem, l5, l7, l42, l43, l91, l11, hs, get_ent, hf, Nat.add_zero, hG]; (try simp (disch := omega) only [IntWalk.i64_in, IntWalk.u64_in, if_neg, if_pos])<;> rfl) (by simp only [go_sem] <;> rfl) ?_
              refine Run.op (by simp only [go_sem, l5, l7, l42, l43, l91, l11, hs, get_ent, hf, Nat.add_zero, hG] <;> rfl) (by simp only [go_sem] <;> rfl) ?_
              refine Run.nil ?_
              refine ForK.nxt ?_ ?_ ?_
              · omega
              · exact Ghost.kpp [0, 1, 3, 46, 47, 48] keepG (by simp only [go_sem, kp_obs kg_i, kp_ent kg_i, kgs.1, kgs.2.1, kgs.2.2.1, kgs.2.2.2.1, kgs.2.2.2.2.1, kgs.2.2.2.2.2, kg_i, Bool.false_eq_true, if_false, List.map_append, hd0, swapR_nil, List.nil_append] <;> rfl)
              · trivial
        · skip
          have hek : k = w.readings.length := by have := ge_of_dec hb49; omega
          have hend : swapsF w k (w.readings.length - k) = [] := swapsF_end (by omega)
          refine Exec.exitS ?_
          refine ForK.ext ?_
          refine BlkK.hit ?_
          refine Exec.reg ?_
          iterate 3 (refine Run.op (by simp only [go_sem, l5, l7, l42, l43, l91, l11, hend, List.nil_append] <;> rfl) (by simp only [go_sem] <;> rfl) ?_)
          refine Run.nil ?_
          refine Exec.assocS ?_
          refine Exec.reg ?_
          iterate 4 (refine Run.op (by simp only [go_sem, l5, l7, l42, l43, l91, l11, hend, List.nil_append] <;> rfl) (by simp only [go_sem] <;> rfl) ?_)
          refine Run.nil ?_
          refine Exec.blk ?_
          refine Exec.forA [0, 1, 11, 94, 95] [900, 11, 91] (w.rates.length) (fun k => [.slot 95 (.int k), .obj 91 (.map (entB w (befE w k)))]) (fun _ => True) (fun k => by simp only [go_sem] <;> rfl) (by simp only [go_sem, l5, l7, l42, l43, l91, l11, hend, List.nil_append, befE_zero, entB_nil, Int.natCast_zero] <;> rfl) ?_ (fun k hk hX => ?_)
          · trivial
          · skip
            refine Exec.reg ?_
            refine Run.op (by simp only [go_sem, l5, l7, l42, l43, l91, l11, hend, List.nil_append] <;> rfl) (by simp only [go_sem] <;> rfl) ?_
            refine Run.nil ?_
            refine Exec.cndS (by simp only [go_sem, l5, l7, l42, l43, l91, l11, hend, List.nil_append] <;> rfl) (fun hb96 => ?_) (fun hb96 => ?_)
            · skip
              have hlt := lt_of_dec hb96
              refine Exec.skipS ?_
              refine Exec.blk ?_
              refine Exec.reg ?_
              iterate 2 (refine Run.op (by simp only [go_sem, l5, l7, l42, l43, l91, l11, hend, List.nil_append] <;> rfl) (by simp only [go_sem] <;> rfl) ?_)
              refine Run.nil ?_
              refine Exec.reg ?_
              refine Run.op (by simp only [go_sem, l5, l7, l42, l43, l91, l11, hend, List.nil_append] <;> rfl) (by simp only [go_sem] <;> rfl) ?_
              refine Run.nil ?_
              refine Exec.reg ?_
              iterate 2 (refine Run.op (by simp only [go_sem, l5, l7, l42, l43, l91, l11, hend, List.nil_append] <;> rfl) (by simp only [go_sem] <;> rfl) ?_)
              refine Run.cal (c_card_of w k) (by simp only [go_sem]) (by simp only [go_sem, l5, l7, l42, l43, l91, l11, hend, List.nil_append] <;> rfl) (by exact ⟨by first | exact WkR.pure rfl | exact WkR.nil _ | exact WkR.int (by first | omega | (simp; done) | (simp; omega)), by first | exact WkR.pure rfl | exact WkR.nil _ | exact WkR.int (by first | omega | (simp; done) | (simp; omega)), trivial⟩) (fr0) (by simp only [go_sem, l5, l7, l42, l43, l91, l11, hend, List.nil_append] <;> rfl) ?_
              refine Run.nil ?_
              refine Exec.blk1 ?_
              refine Exec.rangeL 55 [.pt (walkD w), .pt [.i k]] 900 (ofV w k) [0, 1, 11, 13, 94, 95, 100] [900, 11, 91, 13] (fun j => [.obj 13 (.cells [.d (.i (lastN w k j).1.house), .d (.i (lastN w k j).1.day), .d (.i (lastN w k j).1.shows), .d (.i ((lastN w k j).2 : Int))]), .obj 91 (.map (entB w (befE w k ++ (pairsL (ofS w k)).take (j - 1))))]) (fun _ => True) (fun j => by simp only [go_sem] <;> rfl) (by simp only [go_sem, l5, l7, l42, l43, l91, l11, hend, List.nil_append, Nat.zero_sub, List.take_zero, List.append_nil] <;> rfl) (fun _ => by rfl) (fun _ => by rfl) rfl (by simp only [go_sem] <;> rfl) (by simp only [go_sem]) (c_of_1 w k h1 h2 h20) (by decide +kernel) ?_ (fun j v hv Xj => ?_) (fun Xj => ?_)
              · trivial
              · skip
                obtain ⟨i, hi, rfl⟩ := ofV_get hv
                have hil := (mem_ofS.1 (List.mem_of_getElem? hi)).1
                have hri := read_ok hw hil
                have e : lastN w k (j + 1) = numOf w i := lastN_succ hi
                refine ⟨rfl, ?_⟩
                refine Exec.reg ?_
                refine Run.op (by simp only [go_sem, l5, l7, l42, l43, l91, l11, hend, List.nil_append, e, numOf] <;> rfl) (by simp only [go_sem] <;> rfl) ?_
                refine Run.nil ?_
                refine Exec.reg1 ?_
                iterate 2 (refine Run.op (by simp only [go_sem, l5, l7, l42, l43, l91, l11, hend, List.nil_append, e, numOf] <;> rfl) (by simp only [go_sem] <;> rfl) ?_)
                refine Run.nil ?_
                refine ⟨rfl, ?_⟩
                refine Exec.blk1 ?_
                refine Exec.assocS ?_
                by_cases hj0 : j = 0
                · skip
                  subst hj0
                  have hg : decide (((0 : Nat) : Int) > 0) = false := by decide
                  refine Exec.reg ?_
                  iterate 2 (refine Run.op (by simp only [go_sem, l5, l7, l42, l43, l91, l11, hend, List.nil_append, e, numOf, hg, List.take_zero, List.append_nil] <;> rfl) (by simp only [go_sem] <;> rfl) ?_)
                  refine Run.nil ?_
                  refine Exec.cndS (by simp only [go_sem, l5, l7, l42, l43, l91, l11, hend, List.nil_append, e, numOf, hg, List.take_zero, List.append_nil] <;> rfl) (fun hb104 => ?_) (fun hb104 => ?_)
                  · exact absurd hb104 (by simp)
                  · skip
                    refine Exec.skipS ?_
                    refine Exec.reg1 ?_
                    iterate 2 (refine Run.op (by simp only [go_sem, l5, l7, l42, l43, l91, l11, hend, List.nil_append, e, numOf, hg, List.take_zero, List.append_nil] <;> rfl) (by simp only [go_sem] <;> rfl) ?_)
                    refine Run.nil ?_
                    refine Blk1K.nrm ?_
                    refine RngK.nrm ?_ ?_
                    · exact Ghost.kl [900, 11, 91, 13] (by simp only [go_sem, l5, l7, l42, l43, l91, l11, hend, List.nil_append, e, numOf, hg, List.take_zero, List.append_nil]; first | ((repeat' (first | with_reducible_and_instances rfl | refine st_eq ?_ ?_ ?_ | refine ret_eq ?_ | refine tup_eq ?_ | refine tm_eq ?_ ?_ | refine arr_eq ?_ | refine cells_eq ?_ | refine val_eq ?_ | refine ls_eq ?_ ?_ | refine own_eq ?_ ?_ | refine sl_eq ?_ | refine b_eq ?_ | (refine i_eq ?_; omega))); done) | rfl)
                    · trivial
                · skip
                  obtain ⟨p, hp⟩ : ∃ p, (ofS w (k : Int))[j - 1]? = some p := ⟨_, List.getElem?_eq_getElem (by have := (List.getElem?_eq_some_iff.1 hi).1; omega)⟩
                  have hla : lastN w k j = numOf w p := by unfold lastN; rw [if_neg hj0, hp]; rfl
                  have hset := fun v => set_entB (w := w) (v := v) (lookN_new hi)
                  have hnx := ent_next hp hi (by omega)
                  have hg : decide ((j : Int) > 0) = true := by simp; omega
                  refine Exec.reg ?_
                  iterate 2 (refine Run.op (by simp only [go_sem, l5, l7, l42, l43, l91, l11, hend, List.nil_append, e, numOf, hg, hla, hset, hnx, List.map_append, List.map_cons, List.map_nil] <;> rfl) (by simp only [go_sem] <;> rfl) ?_)
                  refine Run.nil ?_
                  refine Exec.cndS (by simp only [go_sem, l5, l7, l42, l43, l91, l11, hend, List.nil_append, e, numOf, hg, hla, hset, hnx, List.map_append, List.map_cons, List.map_nil] <;> rfl) (fun hb104 => ?_) (fun hb104 => ?_)
                  · skip
                    refine Exec.reg ?_
                    iterate 6 (refine Run.op (by simp only [go_sem, l5, l7, l42, l43, l91, l11, hend, List.nil_append, e, numOf, hg, hla, hset, hnx, List.map_append, List.map_cons, List.map_nil] <;> rfl) (by simp only [go_sem] <;> rfl) ?_)
                    refine Run.nil ?_
                    refine Exec.reg1 ?_
                    iterate 2 (refine Run.op (by simp only [go_sem, l5, l7, l42, l43, l91, l11, hend, List.nil_append, e, numOf, hg, hla, hset, hnx, List.map_append, List.map_cons, List.map_nil] <;> rfl) (by simp only [go_sem] <;> rfl) ?_)
                    refine Run.nil ?_
                    refine Blk1K.nrm ?_
                    refine RngK.nrm ?_ ?_
                    · exact Ghost.kl [900, 11, 91, 13] (by simp only [go_sem, l5, l7, l42, l43, l91, l11, hend, List.nil_append, e, numOf, hg, hla, hset, hnx, List.map_append, List.map_cons, List.map_nil]; first | ((repeat' (first | with_reducible_and_instances rfl | refine st_eq ?_ ?_ ?_ | refine ret_eq ?_ | refine tup_eq ?_ | refine tm_eq ?_ ?_ | refine arr_eq ?_ | refine cells_eq ?_ | refine val_eq ?_ | refine ls_eq ?_ ?_ | refine own_eq ?_ ?_ | refine sl_eq ?_ | refine b_eq ?_ | (refine i_eq ?_; omega))); done) | rfl)
                    · trivial
                  · exact absurd hb104 (by simp)
              · skip
                have e := be_next w k
                refine Blk1K.nrm ?_
                refine BlkK.nrm ?_
                refine Exec.reg1 ?_
                refine Run.op (by simp only [go_sem, l5, l7, l42, l43, l91, l11, hend, List.nil_append, e]; (try simp (disch := omega) only [IntWalk.i64_in, IntWalk.u64_in, if_neg, if_pos])<;> rfl) (by simp only [go_sem] <;> rfl) ?_
                refine Run.op (by simp only [go_sem, l5, l7, l42, l43, l91, l11, hend, List.nil_append, e] <;> rfl) (by simp only [go_sem] <;> rfl) ?_
                refine Run.nil ?_
                refine ForK.nxt ?_ ?_ ?_
                · omega
                · exact Ghost.kp [0, 1, 11, 94, 95] [900, 11, 91] (by simp only [go_sem, l5, l7, l42, l43, l91, l11, hend, List.nil_append, e]; first | ((repeat' (first | with_reducible_and_instances rfl | refine st_eq ?_ ?_ ?_ | refine ret_eq ?_ | refine tup_eq ?_ | refine tm_eq ?_ ?_ | refine arr_eq ?_ | refine cells_eq ?_ | refine val_eq ?_ | refine ls_eq ?_ ?_ | refine own_eq ?_ ?_ | refine sl_eq ?_ | refine b_eq ?_ | (refine i_eq ?_; omega))); done) | rfl)
                · trivial
            · skip
              have hek : k = w.rates.length := by have := ge_of_dec hb96; omega
              subst hek
              refine Exec.exitS ?_
              refine ForK.ext ?_
              refine BlkK.hit ?_
              refine Exec.assocS ?_
              refine Exec.reg ?_
              iterate 4 (refine Run.op (by simp only [go_sem, l5, l7, l42, l43, l91, l11, hend, List.nil_append] <;> rfl) (by simp only [go_sem] <;> rfl) ?_)
              refine Run.nil ?_
              refine Exec.blk ?_
              refine Exec.forY [0, 1, 11, 113, 114, 115] [900, 11, 91] (w.readings.length) (fun k => [.slot 115 (.int k)]) (fun k => lB (repV (copiesF w k (w.readings.length - k) ++ (latesF w 0 w.readings.length)))) (fun _ => True) (fun k => by simp only [go_sem] <;> rfl) (by simp only [go_sem, l5, l7, l42, l43, l91, l11, hend, List.nil_append, Nat.sub_zero, Int.natCast_zero] <;> rfl) ?_ (fun k hk hX => ?_)
              · trivial
              · skip
                refine Exec.reg ?_
                refine Run.op (by simp only [go_sem, l5, l7, l42, l43, l91, l11, hend, List.nil_append] <;> rfl) (by simp only [go_sem] <;> rfl) ?_
                refine Run.nil ?_
                refine Exec.cndS (by simp only [go_sem, l5, l7, l42, l43, l91, l11, hend, List.nil_append] <;> rfl) (fun hb116 => ?_) (fun hb116 => ?_)
                · skip
                  have hlt := lt_of_dec hb116
                  have hs := rd_get hlt
                  have hrk := read_ok hw hlt
                  refine Exec.skipS ?_
                  refine Exec.blk ?_
                  refine Exec.reg ?_
                  refine Run.op (by simp only [go_sem, l5, l7, l42, l43, l91, l11, hend, List.nil_append, hs] <;> rfl) (by simp only [go_sem] <;> rfl) ?_
                  refine Run.op (by simp only [go_sem, l5, l7, l42, l43, l91, l11, hend, List.nil_append, hs]; (try simp (disch := omega) only [if_pos]); (try simp only [go_sem, l5, l7, l42, l43, l91, l11, hend, List.nil_append, hs])<;> rfl) (by simp only [go_sem] <;> rfl) ?_
                  iterate 4 (refine Run.op (by simp only [go_sem, l5, l7, l42, l43, l91, l11, hend, List.nil_append, hs] <;> rfl) (by simp only [go_sem] <;> rfl) ?_)
                  refine Run.nil ?_
                  by_cases hbf : ∃ p, befS w k = some p
                  · skip
                    have hlk := lookN_bef hw hlt
                    obtain ⟨p, hbf⟩ := hbf
                    rw [hbf] at hlk
                    have hpl := befS_lt hbf
                    have hrp := read_ok hw hpl
                    refine Exec.reg ?_
                    iterate 9 (refine Run.op (by simp only [go_sem, l5, l7, l42, l43, l91, l11, hend, List.nil_append, hs, get_entB, hlk] <;> rfl) (by simp only [go_sem] <;> rfl) ?_)
                    refine Run.nil ?_
                    by_cases heq : (rd w p).shows = (rd w k).shows
                    · skip
                      have hg : ((rd w p).shows == (rd w k).shows) = true := by simpa using heq
                      have hcs : copiesF w k (w.readings.length - k) = .cp k :: copiesF w (k + 1) (w.readings.length - (k + 1)) := by rw [copiesF_step hlt, copyR, hbf]; simp only; rw [if_pos heq]; rfl
                      refine Exec.reg ?_
                      iterate 2 (refine Run.op (by simp only [go_sem, l5, l7, l42, l43, l91, l11, hend, List.nil_append, hs, get_entB, hlk, hg] <;> rfl) (by simp only [go_sem] <;> rfl) ?_)
                      refine Run.yes (by simp only [go_sem] <;> rfl) (by simp only [go_sem, l5, l7, l42, l43, l91, l11, hend, List.nil_append, hs, get_entB, hlk, hg] <;> rfl) (by simp only [go_sem] <;> rfl) ?_
                      refine Run.yes (by simp only [go_sem] <;> rfl) (by simp only [go_sem, l5, l7, l42, l43, l91, l11, hend, List.nil_append, hs, get_entB, hlk, hg] <;> rfl) (by simp only [go_sem] <;> rfl) ?_
                      refine Run.yes (by simp only [go_sem] <;> rfl) (by simp only [go_sem, l5, l7, l42, l43, l91, l11, hend, List.nil_append, hs, get_entB, hlk, hg] <;> rfl) (by simp only [go_sem] <;> rfl) ?_
                      refine Run.yes (by simp only [go_sem] <;> rfl) (by simp only [go_sem, l5, l7, l42, l43, l91, l11, hend, List.nil_append, hs, get_entB, hlk, hg] <;> rfl) (by simp only [go_sem] <;> rfl) ?_
                      refine Run.yes (by simp only [go_sem] <;> rfl) (by simp only [go_sem, l5, l7, l42, l43, l91, l11, hend, List.nil_append, hs, get_entB, hlk, hg] <;> rfl) (by simp only [go_sem] <;> rfl) ?_
                      iterate 2 (refine Run.op (by simp only [go_sem, l5, l7, l42, l43, l91, l11, hend, List.nil_append, hs, get_entB, hlk, hg] <;> rfl) (by simp only [go_sem] <;> rfl) ?_)
                      refine Run.yes (by simp only [go_sem] <;> rfl) (by simp only [go_sem, l5, l7, l42, l43, l91, l11, hend, List.nil_append, hs, get_entB, hlk, hg] <;> rfl) (by simp only [go_sem] <;> rfl) ?_
                      refine Run.yes (by simp only [go_sem] <;> rfl) (by simp only [go_sem, l5, l7, l42, l43, l91, l11, hend, List.nil_append, hs, get_entB, hlk, hg] <;> rfl) (by simp only [go_sem] <;> rfl) ?_
                      refine Run.yes (by simp only [go_sem] <;> rfl) (by simp only [go_sem, l5, l7, l42, l43, l91, l11, hend, List.nil_append, hs, get_entB, hlk, hg] <;> rfl) (by simp only [go_sem] <;> rfl) ?_
                      refine Run.yes (by simp only [go_sem] <;> rfl) (by simp only [go_sem, l5, l7, l42, l43, l91, l11, hend, List.nil_append, hs, get_entB, hlk, hg] <;> rfl) (by simp only [go_sem] <;> rfl) ?_
                      refine Run.yldw (args := [.leaf (.d (repD (.cp k)))]) (by simp only [go_sem] <;> rfl) (by simp only [go_sem] <;> rfl) (by simp only [go_sem] <;> rfl) (by simp only [go_sem] <;> rfl) (by exact ⟨WkP.refl rfl, trivial⟩) (by simp only [hcs, List.cons_append, List.nil_append, repV, List.map_cons, lB_cons] <;> rfl) (fun t => ?_)
                      refine Run.yes (by simp only [go_sem] <;> rfl) (by simp only [go_sem, l5, l7, l42, l43, l91, l11, hend, List.nil_append, hs, get_entB, hlk, hg] <;> rfl) (by simp only [go_sem] <;> rfl) ?_
                      refine Run.op (by simp only [go_sem, l5, l7, l42, l43, l91, l11, hend, List.nil_append, hs, get_entB, hlk, hg] <;> rfl) (by simp only [go_sem] <;> rfl) ?_
                      refine Run.nil ?_
                      refine Exec.cnd (by simp only [go_sem, l5, l7, l42, l43, l91, l11, hend, List.nil_append, hs, get_entB, hlk, hg] <;> rfl) (fun hb141 => ?_) (fun hb141 => ?_)
                      · skip
                        have ht : t = false := by simpa using hb141
                        subst ht
                        refine BlkK.ret ?_
                        refine ForK.ret ?_
                        refine BlkK.ret ?_
                        exact Ends.fin [] (rs := []) rfl (by simp only [go_sem, l5, l7, l42, l43, l91, l11, hend, List.nil_append, hs, get_entB, hlk, hg] <;> rfl) (by simp only [go_sem, l5, l7, l42, l43, l91, l11, hend, List.nil_append, hs, get_entB, hlk, hg] <;> first | rfl | ((repeat' (first | with_reducible_and_instances rfl | refine st_eq ?_ ?_ ?_ | refine ret_eq ?_ | refine tup_eq ?_ | refine tm_eq ?_ ?_ | refine arr_eq ?_ | refine cells_eq ?_ | refine val_eq ?_ | refine ls_eq ?_ ?_ | refine own_eq ?_ ?_ | refine sl_eq ?_ | refine b_eq ?_ | (refine i_eq ?_; omega))); done))
                      · skip
                        have ht : t = true := by simpa using hb141
                        subst ht
                        refine BlkK.nrm ?_
                        refine Exec.reg1 ?_
                        refine Run.op (by simp only [go_sem, l5, l7, l42, l43, l91, l11, hend, List.nil_append, hs, get_entB, hlk, hg]; (try simp (disch := omega) only [IntWalk.i64_in, IntWalk.u64_in, if_neg, if_pos])<;> rfl) (by simp only [go_sem] <;> rfl) ?_
                        refine Run.op (by simp only [go_sem, l5, l7, l42, l43, l91, l11, hend, List.nil_append, hs, get_entB, hlk, hg] <;> rfl) (by simp only [go_sem] <;> rfl) ?_
                        refine Run.nil ?_
                        refine ForK.nxt ?_ ?_ ?_
                        · omega
                        · exact Ghost.kp [0, 1, 11, 113, 114, 115] [900, 11, 91] (by simp only [go_sem, l5, l7, l42, l43, l91, l11, hend, List.nil_append, hs, get_entB, hlk, hg]; first | ((repeat' (first | with_reducible_and_instances rfl | refine st_eq ?_ ?_ ?_ | refine ret_eq ?_ | refine tup_eq ?_ | refine tm_eq ?_ ?_ | refine arr_eq ?_ | refine cells_eq ?_ | refine val_eq ?_ | refine ls_eq ?_ ?_ | refine own_eq ?_ ?_ | refine sl_eq ?_ | refine b_eq ?_ | (refine i_eq ?_; omega))); done) | rfl)
                        · trivial
                    · skip
                      have hg : ((rd w p).shows == (rd w k).shows) = false := by simpa using heq
                      have hcs : copiesF w k (w.readings.length - k) = copiesF w (k + 1) (w.readings.length - (k + 1)) := by rw [copiesF_step hlt, copyR, hbf]; simp only; rw [if_neg heq]; rfl
                      refine Exec.reg ?_
                      iterate 2 (refine Run.op (by simp only [go_sem, l5, l7, l42, l43, l91, l11, hend, List.nil_append, hs, get_entB, hlk, hg, hcs] <;> rfl) (by simp only [go_sem] <;> rfl) ?_)
                      refine Run.yes (by simp only [go_sem] <;> rfl) (by simp only [go_sem, l5, l7, l42, l43, l91, l11, hend, List.nil_append, hs, get_entB, hlk, hg, hcs] <;> rfl) (by simp only [go_sem] <;> rfl) ?_
                      refine Run.yes (by simp only [go_sem] <;> rfl) (by simp only [go_sem, l5, l7, l42, l43, l91, l11, hend, List.nil_append, hs, get_entB, hlk, hg, hcs] <;> rfl) (by simp only [go_sem] <;> rfl) ?_
                      refine Run.yes (by simp only [go_sem] <;> rfl) (by simp only [go_sem, l5, l7, l42, l43, l91, l11, hend, List.nil_append, hs, get_entB, hlk, hg, hcs] <;> rfl) (by simp only [go_sem] <;> rfl) ?_
                      refine Run.yes (by simp only [go_sem] <;> rfl) (by simp only [go_sem, l5, l7, l42, l43, l91, l11, hend, List.nil_append, hs, get_entB, hlk, hg, hcs] <;> rfl) (by simp only [go_sem] <;> rfl) ?_
                      refine Run.yes (by simp only [go_sem] <;> rfl) (by simp only [go_sem, l5, l7, l42, l43, l91, l11, hend, List.nil_append, hs, get_entB, hlk, hg, hcs] <;> rfl) (by simp only [go_sem] <;> rfl) ?_
                      iterate 2 (refine Run.op (by simp only [go_sem, l5, l7, l42, l43, l91, l11, hend, List.nil_append, hs, get_entB, hlk, hg, hcs] <;> rfl) (by simp only [go_sem] <;> rfl) ?_)
                      refine Run.skp (by simp only [go_sem] <;> rfl) (by simp only [go_sem] <;> rfl) ?_
                      refine Run.skp (by simp only [go_sem] <;> rfl) (by simp only [go_sem] <;> rfl) ?_
                      refine Run.skp (by simp only [go_sem] <;> rfl) (by simp only [go_sem] <;> rfl) ?_
                      refine Run.skp (by simp only [go_sem] <;> rfl) (by simp only [go_sem] <;> rfl) ?_
                      refine Run.skp (by simp only [go_sem] <;> rfl) (by simp only [go_sem] <;> rfl) ?_
                      refine Run.skp (by simp only [go_sem] <;> rfl) (by simp only [go_sem] <;> rfl) ?_
                      refine Run.op (by simp only [go_sem, l5, l7, l42, l43, l91, l11, hend, List.nil_append, hs, get_entB, hlk, hg, hcs] <;> rfl) (by simp only [go_sem] <;> rfl) ?_
                      refine Run.nil ?_
                      refine Exec.cnd (by simp only [go_sem, l5, l7, l42, l43, l91, l11, hend, List.nil_append, hs, get_entB, hlk, hg, hcs] <;> rfl) (fun hb141 => ?_) (fun hb141 => ?_)
                      · exact absurd hb141 (by simp)
                      · skip
                        refine BlkK.nrm ?_
                        refine Exec.reg1 ?_
                        refine Run.op (by simp only [go_sem, l5, l7, l42, l43, l91, l11, hend, List.nil_append, hs, get_entB, hlk, hg, hcs]; (try simp (disch := omega) only [IntWalk.i64_in, IntWalk.u64_in, if_neg, if_pos])<;> rfl) (by simp only [go_sem] <;> rfl) ?_
                        refine Run.op (by simp only [go_sem, l5, l7, l42, l43, l91, l11, hend, List.nil_append, hs, get_entB, hlk, hg, hcs] <;> rfl) (by simp only [go_sem] <;> rfl) ?_
                        refine Run.nil ?_
                        refine ForK.nxt ?_ ?_ ?_
                        · omega
                        · exact Ghost.kp [0, 1, 11, 113, 114, 115] [900, 11, 91] (by simp only [go_sem, l5, l7, l42, l43, l91, l11, hend, List.nil_append, hs, get_entB, hlk, hg, hcs]; first | ((repeat' (first | with_reducible_and_instances rfl | refine st_eq ?_ ?_ ?_ | refine ret_eq ?_ | refine tup_eq ?_ | refine tm_eq ?_ ?_ | refine arr_eq ?_ | refine cells_eq ?_ | refine val_eq ?_ | refine ls_eq ?_ ?_ | refine own_eq ?_ ?_ | refine sl_eq ?_ | refine b_eq ?_ | (refine i_eq ?_; omega))); done) | rfl)
                        · trivial
                  · skip
                    have hbf : befS w k = none := by
                      cases h : befS w k with
                      | none => rfl
                      | some p => exact absurd ⟨p, h⟩ hbf
                    have hlk := lookN_bef hw hlt
                    rw [hbf] at hlk
                    have hcs : copiesF w k (w.readings.length - k) = copiesF w (k + 1) (w.readings.length - (k + 1)) := by rw [copiesF_step hlt, copyR, hbf]; rfl
                    refine Exec.reg ?_
                    iterate 9 (refine Run.op (by simp only [go_sem, l5, l7, l42, l43, l91, l11, hend, List.nil_append, hs, get_entB, hlk, hcs] <;> rfl) (by simp only [go_sem] <;> rfl) ?_)
                    refine Run.nil ?_
                    refine Exec.reg ?_
                    iterate 2 (refine Run.op (by simp only [go_sem, l5, l7, l42, l43, l91, l11, hend, List.nil_append, hs, get_entB, hlk, hcs] <;> rfl) (by simp only [go_sem] <;> rfl) ?_)
                    refine Run.skp (by simp only [go_sem] <;> rfl) (by simp only [go_sem] <;> rfl) ?_
                    refine Run.skp (by simp only [go_sem] <;> rfl) (by simp only [go_sem] <;> rfl) ?_
                    refine Run.skp (by simp only [go_sem] <;> rfl) (by simp only [go_sem] <;> rfl) ?_
                    refine Run.skp (by simp only [go_sem] <;> rfl) (by simp only [go_sem] <;> rfl) ?_
                    refine Run.skp (by simp only [go_sem] <;> rfl) (by simp only [go_sem] <;> rfl) ?_
                    iterate 2 (refine Run.op (by simp only [go_sem, l5, l7, l42, l43, l91, l11, hend, List.nil_append, hs, get_entB, hlk, hcs] <;> rfl) (by simp only [go_sem] <;> rfl) ?_)
                    refine Run.skp (by simp only [go_sem] <;> rfl) (by simp only [go_sem] <;> rfl) ?_
                    refine Run.skp (by simp only [go_sem] <;> rfl) (by simp only [go_sem] <;> rfl) ?_
                    refine Run.skp (by simp only [go_sem] <;> rfl) (by simp only [go_sem] <;> rfl) ?_
                    refine Run.skp (by simp only [go_sem] <;> rfl) (by simp only [go_sem] <;> rfl) ?_
                    refine Run.skp (by simp only [go_sem] <;> rfl) (by simp only [go_sem] <;> rfl) ?_
                    refine Run.skp (by simp only [go_sem] <;> rfl) (by simp only [go_sem] <;> rfl) ?_
                    refine Run.op (by simp only [go_sem, l5, l7, l42, l43, l91, l11, hend, List.nil_append, hs, get_entB, hlk, hcs] <;> rfl) (by simp only [go_sem] <;> rfl) ?_
                    refine Run.nil ?_
                    refine Exec.cnd (by simp only [go_sem, l5, l7, l42, l43, l91, l11, hend, List.nil_append, hs, get_entB, hlk, hcs] <;> rfl) (fun hb141 => ?_) (fun hb141 => ?_)
                    · exact absurd hb141 (by simp)
                    · skip
                      refine BlkK.nrm ?_
                      refine Exec.reg1 ?_
                      refine Run.op (by simp only [go_sem, l5, l7, l42, l43, l91, l11, hend, List.nil_append, hs, get_entB, hlk, hcs]; (try simp (disch := omega) only [IntWalk.i64_in, IntWalk.u64_in, if_neg, if_pos])<;> rfl) (by simp only [go_sem] <;> rfl) ?_
                      refine Run.op (by simp only [go_sem, l5, l7, l42, l43, l91, l11, hend, List.nil_append, hs, get_entB, hlk, hcs] <;> rfl) (by simp only [go_sem] <;> rfl) ?_
                      refine Run.nil ?_
                      refine ForK.nxt ?_ ?_ ?_
                      · omega
                      · exact Ghost.kp [0, 1, 11, 113, 114, 115] [900, 11, 91] (by simp only [go_sem, l5, l7, l42, l43, l91, l11, hend, List.nil_append, hs, get_entB, hlk, hcs]; first | ((repeat' (first | with_reducible_and_instances rfl | refine st_eq ?_ ?_ ?_ | refine ret_eq ?_ | refine tup_eq ?_ | refine tm_eq ?_ ?_ | refine arr_eq ?_ | refine cells_eq ?_ | refine val_eq ?_ | refine ls_eq ?_ ?_ | refine own_eq ?_ ?_ | refine sl_eq ?_ | refine b_eq ?_ | (refine i_eq ?_; omega))); done) | rfl)
                      · trivial
                · skip
                  have hend : copiesF w k (w.readings.length - k) = [] := copiesF_end (ge_of_dec hb116)
                  refine Exec.exitS ?_
                  refine ForK.ext ?_
                  refine BlkK.hit ?_
                  refine Exec.reg ?_
                  iterate 4 (refine Run.op (by simp only [go_sem, l5, l7, l42, l43, l91, l11, hend, List.nil_append, hend, List.nil_append] <;> rfl) (by simp only [go_sem] <;> rfl) ?_)
                  refine Run.nil ?_
                  refine Exec.blk1 ?_
                  refine Exec.forY [0, 11, 144, 145, 146] [900, 11, 91] (w.readings.length) (fun k => [.slot 146 (.int k)]) (fun k => lB (repV (latesF w k (w.readings.length - k)))) (fun _ => True) (fun k => by simp only [go_sem] <;> rfl) (by simp only [go_sem, l5, l7, l42, l43, l91, l11, hend, List.nil_append, hend, List.nil_append, Nat.sub_zero, Int.natCast_zero] <;> rfl) ?_ (fun k hk hX => ?_)
                  · trivial
                  · skip
                    refine Exec.reg ?_
                    refine Run.op (by simp only [go_sem, l5, l7, l42, l43, l91, l11, hend, List.nil_append, hend, List.nil_append] <;> rfl) (by simp only [go_sem] <;> rfl) ?_
                    refine Run.nil ?_
                    refine Exec.cndS (by simp only [go_sem, l5, l7, l42, l43, l91, l11, hend, List.nil_append, hend, List.nil_append] <;> rfl) (fun hb147 => ?_) (fun hb147 => ?_)
                    · skip
                      have hlt := lt_of_dec hb147
                      have hs := rd_get hlt
                      have hrk := read_ok hw hlt
                      have e1 := latesF_step hlt
                      refine Exec.skipS ?_
                      refine Exec.blk ?_
                      refine Exec.reg ?_
                      refine Run.op (by simp only [go_sem, l5, l7, l42, l43, l91, l11, hend, List.nil_append, hend, List.nil_append, hs] <;> rfl) (by simp only [go_sem] <;> rfl) ?_
                      refine Run.op (by simp only [go_sem, l5, l7, l42, l43, l91, l11, hend, List.nil_append, hend, List.nil_append, hs]; (try simp (disch := omega) only [if_pos]); (try simp only [go_sem, l5, l7, l42, l43, l91, l11, hend, List.nil_append, hend, List.nil_append, hs])<;> rfl) (by simp only [go_sem] <;> rfl) ?_
                      iterate 4 (refine Run.op (by simp only [go_sem, l5, l7, l42, l43, l91, l11, hend, List.nil_append, hend, List.nil_append, hs] <;> rfl) (by simp only [go_sem] <;> rfl) ?_)
                      refine Run.nil ?_
                      by_cases hbf : ∃ p, befS w k = some p
                      · skip
                        have hlk := lookN_bef hw hlt
                        obtain ⟨p, hbf⟩ := hbf
                        rw [hbf] at hlk
                        have hpl := befS_lt hbf
                        have hrp := read_ok hw hpl
                        refine Exec.reg ?_
                        iterate 9 (refine Run.op (by simp only [go_sem, l5, l7, l42, l43, l91, l11, hend, List.nil_append, hend, List.nil_append, hs, get_entB, hlk] <;> rfl) (by simp only [go_sem] <;> rfl) ?_)
                        refine Run.nil ?_
                        refine Exec.reg ?_
                        refine Run.op (by simp only [go_sem, l5, l7, l42, l43, l91, l11, hend, List.nil_append, hend, List.nil_append, hs, get_entB, hlk] <;> rfl) (by simp only [go_sem] <;> rfl) ?_
                        refine Run.nil ?_
                        refine Exec.blk1 ?_
                        refine Exec.forY [0, 11, 20, 21, 22, 23, 24, 144, 145, 146] [900, 11, 91, 21, 22] (30) (fun d => [.slot 24 (.int ((d + 1 : Nat) : Int))]) (fun d => lB (repV (lateL w k (31 - d) (d + 1) ++ latesF w (k + 1) (w.readings.length - (k + 1))))) (fun _ => True) (fun d => by simp only [go_sem] <;> rfl) (by simp only [go_sem, l5, l7, l42, l43, l91, l11, hend, List.nil_append, hend, List.nil_append, hs, get_entB, hlk, e1, Nat.sub_zero, Nat.zero_add] <;> rfl) ?_ (fun d hd Xd => ?_)
                        · trivial
                        · skip
                          refine Exec.assocS ?_
                          by_cases hm : ((d + 1 : Nat) : Int) ≤ min 30 (rd w k).day
                          · skip
                            have hg : decide (((d + 1 : Nat) : Int) ≤ min 30 (rd w k).day) = true := by simpa using hm
                            refine Exec.reg ?_
                            iterate 6 (refine Run.op (by simp only [go_sem, l5, l7, l42, l43, l91, l11, hend, List.nil_append, hend, List.nil_append, hs, get_entB, hlk, pick_min, hg] <;> rfl) (by simp only [go_sem] <;> rfl) ?_)
                            refine Run.yes (by simp only [go_sem] <;> rfl) (by simp only [go_sem, l5, l7, l42, l43, l91, l11, hend, List.nil_append, hend, List.nil_append, hs, get_entB, hlk, pick_min, hg] <;> rfl) (by simp only [go_sem] <;> rfl) ?_
                            refine Run.yes (by simp only [go_sem] <;> rfl) (by simp only [go_sem, l5, l7, l42, l43, l91, l11, hend, List.nil_append, hend, List.nil_append, hs, get_entB, hlk, pick_min, hg] <;> rfl) (by simp only [go_sem] <;> rfl) ?_
                            refine Run.yes (by simp only [go_sem] <;> rfl) (by simp only [go_sem, l5, l7, l42, l43, l91, l11, hend, List.nil_append, hend, List.nil_append, hs, get_entB, hlk, pick_min, hg] <;> rfl) (by simp only [go_sem] <;> rfl) ?_
                            refine Run.yes (by simp only [go_sem] <;> rfl) (by simp only [go_sem, l5, l7, l42, l43, l91, l11, hend, List.nil_append, hend, List.nil_append, hs, get_entB, hlk, pick_min, hg] <;> rfl) (by simp only [go_sem] <;> rfl) ?_
                            refine Run.yes (by simp only [go_sem] <;> rfl) (by simp only [go_sem, l5, l7, l42, l43, l91, l11, hend, List.nil_append, hend, List.nil_append, hs, get_entB, hlk, pick_min, hg] <;> rfl) (by simp only [go_sem] <;> rfl) ?_
                            refine Run.yes (by simp only [go_sem] <;> rfl) (by simp only [go_sem, l5, l7, l42, l43, l91, l11, hend, List.nil_append, hend, List.nil_append, hs, get_entB, hlk, pick_min, hg] <;> rfl) (by simp only [go_sem] <;> rfl) ?_
                            refine Run.yes (by simp only [go_sem] <;> rfl) (by simp only [go_sem, l5, l7, l42, l43, l91, l11, hend, List.nil_append, hend, List.nil_append, hs, get_entB, hlk, pick_min, hg]; (try simp (disch := omega) only [IntWalk.i64_in, IntWalk.u64_in, if_neg, if_pos])<;> rfl) (by simp only [go_sem] <;> rfl) ?_
                            refine Run.yes (by simp only [go_sem] <;> rfl) (by simp only [go_sem, l5, l7, l42, l43, l91, l11, hend, List.nil_append, hend, List.nil_append, hs, get_entB, hlk, pick_min, hg] <;> rfl) (by simp only [go_sem] <;> rfl) ?_
                            refine Run.yes (by simp only [go_sem] <;> rfl) (by simp only [go_sem, l5, l7, l42, l43, l91, l11, hend, List.nil_append, hend, List.nil_append, hs, get_entB, hlk, pick_min, hg] <;> rfl) (by simp only [go_sem] <;> rfl) ?_
                            refine Run.yes (by simp only [go_sem] <;> rfl) (by simp only [go_sem, l5, l7, l42, l43, l91, l11, hend, List.nil_append, hend, List.nil_append, hs, get_entB, hlk, pick_min, hg] <;> rfl) (by simp only [go_sem] <;> rfl) ?_
                            refine Run.yes (by simp only [go_sem] <;> rfl) (by simp only [go_sem, l5, l7, l42, l43, l91, l11, hend, List.nil_append, hend, List.nil_append, hs, get_entB, hlk, pick_min, hg] <;> rfl) (by simp only [go_sem] <;> rfl) ?_
                            refine Run.op (by simp only [go_sem, l5, l7, l42, l43, l91, l11, hend, List.nil_append, hend, List.nil_append, hs, get_entB, hlk, pick_min, hg] <;> rfl) (by simp only [go_sem] <;> rfl) ?_
                            refine Run.nil ?_
                            refine Exec.cndS (by simp only [go_sem, l5, l7, l42, l43, l91, l11, hend, List.nil_append, hend, List.nil_append, hs, get_entB, hlk, pick_min, hg] <;> rfl) (fun hb174 => ?_) (fun hb174 => ?_)
                            · skip
                              have hok : lateOk w k (d + 1) = true := by simp only [lateOk, hbf, Bool.and_eq_true, decide_eq_true_eq]; simp only [decide_eq_true_eq] at hb174; omega
                              have hls := lateL_yes (w := w) (a := k) (f := 30 - d) hok
                              rw [show 30 - d + 1 = 31 - d by omega, show 30 - d = 31 - (d + 1) by omega] at hls
                              have hd30 : d < 30 := by omega
                              refine Exec.skipS ?_
                              refine Exec.blk ?_
                              refine Exec.reg ?_
                              iterate 5 (refine Run.op (by simp only [go_sem, l5, l7, l42, l43, l91, l11, hend, List.nil_append, hend, List.nil_append, hs, get_entB, hlk, pick_min, hg] <;> rfl) (by simp only [go_sem] <;> rfl) ?_)
                              refine Run.yldw (args := [.leaf (.d (repD (.lt k (d + 1))))]) (by simp only [go_sem] <;> rfl) (by simp only [go_sem] <;> rfl) (by simp only [go_sem] <;> rfl) (by simp only [go_sem] <;> rfl) (by exact ⟨WkP.refl rfl, trivial⟩) (by simp only [hls, List.cons_append, List.nil_append, repV, List.map_cons, lB_cons] <;> rfl) (fun t => ?_)
                              refine Run.op (by simp only [go_sem, l5, l7, l42, l43, l91, l11, hend, List.nil_append, hend, List.nil_append, hs, get_entB, hlk, pick_min, hg] <;> rfl) (by simp only [go_sem] <;> rfl) ?_
                              refine Run.nil ?_
                              refine Exec.cnd (by simp only [go_sem, l5, l7, l42, l43, l91, l11, hend, List.nil_append, hend, List.nil_append, hs, get_entB, hlk, pick_min, hg] <;> rfl) (fun hb183 => ?_) (fun hb183 => ?_)
                              · skip
                                have ht : t = false := by simpa using hb183
                                subst ht
                                refine BlkK.ret ?_
                                refine ForK.ret ?_
                                refine Blk1K.ret ?_
                                refine BlkK.ret ?_
                                refine ForK.ret ?_
                                refine Blk1K.ret ?_
                                exact Ends.fin [] (rs := []) rfl (by simp only [go_sem, l5, l7, l42, l43, l91, l11, hend, List.nil_append, hend, List.nil_append, hs, get_entB, hlk, pick_min, hg] <;> rfl) (by simp only [go_sem, l5, l7, l42, l43, l91, l11, hend, List.nil_append, hend, List.nil_append, hs, get_entB, hlk, pick_min, hg] <;> first | rfl | ((repeat' (first | with_reducible_and_instances rfl | refine st_eq ?_ ?_ ?_ | refine ret_eq ?_ | refine tup_eq ?_ | refine tm_eq ?_ ?_ | refine arr_eq ?_ | refine cells_eq ?_ | refine val_eq ?_ | refine ls_eq ?_ ?_ | refine own_eq ?_ ?_ | refine sl_eq ?_ | refine b_eq ?_ | (refine i_eq ?_; omega))); done))
                              · skip
                                have ht : t = true := by simpa using hb183
                                subst ht
                                refine BlkK.nrm ?_
                                refine Exec.reg1 ?_
                                refine Run.op (by simp only [go_sem, l5, l7, l42, l43, l91, l11, hend, List.nil_append, hend, List.nil_append, hs, get_entB, hlk, pick_min, hg] <;> rfl) (by simp only [go_sem] <;> rfl) ?_
                                refine Run.op (by simp only [go_sem, l5, l7, l42, l43, l91, l11, hend, List.nil_append, hend, List.nil_append, hs, get_entB, hlk, pick_min, hg]; (try simp (disch := omega) only [IntWalk.i64_in, IntWalk.u64_in, if_neg, if_pos])<;> rfl) (by simp only [go_sem] <;> rfl) ?_
                                refine Run.op (by simp only [go_sem, l5, l7, l42, l43, l91, l11, hend, List.nil_append, hend, List.nil_append, hs, get_entB, hlk, pick_min, hg] <;> rfl) (by simp only [go_sem] <;> rfl) ?_
                                refine Run.nil ?_
                                refine ForK.nxt ?_ ?_ ?_
                                · omega
                                · exact Ghost.kp [0, 11, 20, 21, 22, 23, 24, 144, 145, 146] [900, 11, 91, 21, 22] (by simp only [go_sem, l5, l7, l42, l43, l91, l11, hend, List.nil_append, hend, List.nil_append, hs, get_entB, hlk, pick_min, hg]; first | ((repeat' (first | with_reducible_and_instances rfl | refine st_eq ?_ ?_ ?_ | refine ret_eq ?_ | refine tup_eq ?_ | refine tm_eq ?_ ?_ | refine arr_eq ?_ | refine cells_eq ?_ | refine val_eq ?_ | refine ls_eq ?_ ?_ | refine own_eq ?_ ?_ | refine sl_eq ?_ | refine b_eq ?_ | (refine i_eq ?_; omega))); done) | rfl)
                                · trivial
                            · skip
                              have hok : ¬ lateOk w k (d + 1) = true := by simp only [lateOk, hbf, Bool.and_eq_true, decide_eq_true_eq]; simp only [decide_eq_false_iff_not] at hb174; omega
                              have hls := lateL_no (w := w) (a := k) (f := 30 - d) hok
                              rw [show 30 - d + 1 = 31 - d by omega] at hls
                              refine Exec.exitS ?_
                              refine ForK.ext ?_
                              refine Blk1K.hit ?_
                              refine BlkK.nrm ?_
                              refine Exec.reg1 ?_
                              refine Run.op (by simp only [go_sem, l5, l7, l42, l43, l91, l11, hend, List.nil_append, hend, List.nil_append, hs, get_entB, hlk, pick_min, hg, hls, List.nil_append]; (try simp (disch := omega) only [IntWalk.i64_in, IntWalk.u64_in, if_neg, if_pos])<;> rfl) (by simp only [go_sem] <;> rfl) ?_
                              refine Run.op (by simp only [go_sem, l5, l7, l42, l43, l91, l11, hend, List.nil_append, hend, List.nil_append, hs, get_entB, hlk, pick_min, hg, hls, List.nil_append] <;> rfl) (by simp only [go_sem] <;> rfl) ?_
                              refine Run.nil ?_
                              refine ForK.nxt ?_ ?_ ?_
                              · omega
                              · exact Ghost.kp [0, 11, 144, 145, 146] [900, 11, 91] (by simp only [go_sem, l5, l7, l42, l43, l91, l11, hend, List.nil_append, hend, List.nil_append, hs, get_entB, hlk, pick_min, hg, hls, List.nil_append]; first | ((repeat' (first | with_reducible_and_instances rfl | refine st_eq ?_ ?_ ?_ | refine ret_eq ?_ | refine tup_eq ?_ | refine tm_eq ?_ ?_ | refine arr_eq ?_ | refine cells_eq ?_ | refine val_eq ?_ | refine ls_eq ?_ ?_ | refine own_eq ?_ ?_ | refine sl_eq ?_ | refine b_eq ?_ | (refine i_eq ?_; omega))); done) | rfl)
                              · trivial
                          · skip
                            have hg : decide (((d + 1 : Nat) : Int) ≤ min 30 (rd w k).day) = false := by simpa using hm
                            refine Exec.reg ?_
                            iterate 6 (refine Run.op (by simp only [go_sem, l5, l7, l42, l43, l91, l11, hend, List.nil_append, hend, List.nil_append, hs, get_entB, hlk, pick_min, hg] <;> rfl) (by simp only [go_sem] <;> rfl) ?_)
                            refine Run.skp (by simp only [go_sem] <;> rfl) (by simp only [go_sem] <;> rfl) ?_
                            refine Run.skp (by simp only [go_sem] <;> rfl) (by simp only [go_sem] <;> rfl) ?_
                            refine Run.skp (by simp only [go_sem] <;> rfl) (by simp only [go_sem] <;> rfl) ?_
                            refine Run.skp (by simp only [go_sem] <;> rfl) (by simp only [go_sem] <;> rfl) ?_
                            refine Run.skp (by simp only [go_sem] <;> rfl) (by simp only [go_sem] <;> rfl) ?_
                            refine Run.skp (by simp only [go_sem] <;> rfl) (by simp only [go_sem] <;> rfl) ?_
                            refine Run.skp (by simp only [go_sem] <;> rfl) (by simp only [go_sem] <;> rfl) ?_
                            refine Run.skp (by simp only [go_sem] <;> rfl) (by simp only [go_sem] <;> rfl) ?_
                            refine Run.skp (by simp only [go_sem] <;> rfl) (by simp only [go_sem] <;> rfl) ?_
                            refine Run.skp (by simp only [go_sem] <;> rfl) (by simp only [go_sem] <;> rfl) ?_
                            refine Run.skp (by simp only [go_sem] <;> rfl) (by simp only [go_sem] <;> rfl) ?_
                            refine Run.op (by simp only [go_sem, l5, l7, l42, l43, l91, l11, hend, List.nil_append, hend, List.nil_append, hs, get_entB, hlk, pick_min, hg] <;> rfl) (by simp only [go_sem] <;> rfl) ?_
                            refine Run.nil ?_
                            refine Exec.cndS (by simp only [go_sem, l5, l7, l42, l43, l91, l11, hend, List.nil_append, hend, List.nil_append, hs, get_entB, hlk, pick_min, hg] <;> rfl) (fun hb174 => ?_) (fun hb174 => ?_)
                            · exact absurd hb174 (by simp)
                            · skip
                              have hok : ¬ lateOk w k (d + 1) = true := by simp only [lateOk, Bool.and_eq_true, decide_eq_true_eq]; omega
                              have hls := lateL_no (w := w) (a := k) (f := 30 - d) hok
                              rw [show 30 - d + 1 = 31 - d by omega] at hls
                              refine Exec.exitS ?_
                              refine ForK.ext ?_
                              refine Blk1K.hit ?_
                              refine BlkK.nrm ?_
                              refine Exec.reg1 ?_
                              refine Run.op (by simp only [go_sem, l5, l7, l42, l43, l91, l11, hend, List.nil_append, hend, List.nil_append, hs, get_entB, hlk, pick_min, hg, hls, List.nil_append]; (try simp (disch := omega) only [IntWalk.i64_in, IntWalk.u64_in, if_neg, if_pos])<;> rfl) (by simp only [go_sem] <;> rfl) ?_
                              refine Run.op (by simp only [go_sem, l5, l7, l42, l43, l91, l11, hend, List.nil_append, hend, List.nil_append, hs, get_entB, hlk, pick_min, hg, hls, List.nil_append] <;> rfl) (by simp only [go_sem] <;> rfl) ?_
                              refine Run.nil ?_
                              refine ForK.nxt ?_ ?_ ?_
                              · omega
                              · exact Ghost.kp [0, 11, 144, 145, 146] [900, 11, 91] (by simp only [go_sem, l5, l7, l42, l43, l91, l11, hend, List.nil_append, hend, List.nil_append, hs, get_entB, hlk, pick_min, hg, hls, List.nil_append]; first | ((repeat' (first | with_reducible_and_instances rfl | refine st_eq ?_ ?_ ?_ | refine ret_eq ?_ | refine tup_eq ?_ | refine tm_eq ?_ ?_ | refine arr_eq ?_ | refine cells_eq ?_ | refine val_eq ?_ | refine ls_eq ?_ ?_ | refine own_eq ?_ ?_ | refine sl_eq ?_ | refine b_eq ?_ | (refine i_eq ?_; omega))); done) | rfl)
                              · trivial
                      · skip
                        have hbf : befS w k = none := by
                          cases h : befS w k with
                          | none => rfl
                          | some p => exact absurd ⟨p, h⟩ hbf
                        have hlk := lookN_bef hw hlt
                        rw [hbf] at hlk
                        refine Exec.reg ?_
                        iterate 9 (refine Run.op (by simp only [go_sem, l5, l7, l42, l43, l91, l11, hend, List.nil_append, hend, List.nil_append, hs, get_entB, hlk] <;> rfl) (by simp only [go_sem] <;> rfl) ?_)
                        refine Run.nil ?_
                        refine Exec.reg ?_
                        refine Run.op (by simp only [go_sem, l5, l7, l42, l43, l91, l11, hend, List.nil_append, hend, List.nil_append, hs, get_entB, hlk] <;> rfl) (by simp only [go_sem] <;> rfl) ?_
                        refine Run.nil ?_
                        refine Exec.blk1 ?_
                        refine Exec.forY [0, 11, 20, 21, 22, 23, 24, 144, 145, 146] [900, 11, 91, 21, 22] (30) (fun d => [.slot 24 (.int ((d + 1 : Nat) : Int))]) (fun d => lB (repV (lateL w k (31 - d) (d + 1) ++ latesF w (k + 1) (w.readings.length - (k + 1))))) (fun _ => True) (fun d => by simp only [go_sem] <;> rfl) (by simp only [go_sem, l5, l7, l42, l43, l91, l11, hend, List.nil_append, hend, List.nil_append, hs, get_entB, hlk, e1, Nat.sub_zero, Nat.zero_add] <;> rfl) ?_ (fun d hd Xd => ?_)
                        · trivial
                        · skip
                          refine Exec.assocS ?_
                          by_cases hm : ((d + 1 : Nat) : Int) ≤ min 30 (rd w k).day
                          · skip
                            have hg : decide (((d + 1 : Nat) : Int) ≤ min 30 (rd w k).day) = true := by simpa using hm
                            refine Exec.reg ?_
                            iterate 6 (refine Run.op (by simp only [go_sem, l5, l7, l42, l43, l91, l11, hend, List.nil_append, hend, List.nil_append, hs, get_entB, hlk, pick_min, hg] <;> rfl) (by simp only [go_sem] <;> rfl) ?_)
                            refine Run.yes (by simp only [go_sem] <;> rfl) (by simp only [go_sem, l5, l7, l42, l43, l91, l11, hend, List.nil_append, hend, List.nil_append, hs, get_entB, hlk, pick_min, hg] <;> rfl) (by simp only [go_sem] <;> rfl) ?_
                            refine Run.yes (by simp only [go_sem] <;> rfl) (by simp only [go_sem, l5, l7, l42, l43, l91, l11, hend, List.nil_append, hend, List.nil_append, hs, get_entB, hlk, pick_min, hg] <;> rfl) (by simp only [go_sem] <;> rfl) ?_
                            refine Run.yes (by simp only [go_sem] <;> rfl) (by simp only [go_sem, l5, l7, l42, l43, l91, l11, hend, List.nil_append, hend, List.nil_append, hs, get_entB, hlk, pick_min, hg] <;> rfl) (by simp only [go_sem] <;> rfl) ?_
                            refine Run.skp (by simp only [go_sem] <;> rfl) (by simp only [go_sem] <;> rfl) ?_
                            refine Run.skp (by simp only [go_sem] <;> rfl) (by simp only [go_sem] <;> rfl) ?_
                            refine Run.skp (by simp only [go_sem] <;> rfl) (by simp only [go_sem] <;> rfl) ?_
                            refine Run.skp (by simp only [go_sem] <;> rfl) (by simp only [go_sem] <;> rfl) ?_
                            refine Run.skp (by simp only [go_sem] <;> rfl) (by simp only [go_sem] <;> rfl) ?_
                            refine Run.skp (by simp only [go_sem] <;> rfl) (by simp only [go_sem] <;> rfl) ?_
                            refine Run.skp (by simp only [go_sem] <;> rfl) (by simp only [go_sem] <;> rfl) ?_
                            refine Run.yes (by simp only [go_sem] <;> rfl) (by simp only [go_sem, l5, l7, l42, l43, l91, l11, hend, List.nil_append, hend, List.nil_append, hs, get_entB, hlk, pick_min, hg] <;> rfl) (by simp only [go_sem] <;> rfl) ?_
                            refine Run.op (by simp only [go_sem, l5, l7, l42, l43, l91, l11, hend, List.nil_append, hend, List.nil_append, hs, get_entB, hlk, pick_min, hg] <;> rfl) (by simp only [go_sem] <;> rfl) ?_
                            refine Run.nil ?_
                            refine Exec.cndS (by simp only [go_sem, l5, l7, l42, l43, l91, l11, hend, List.nil_append, hend, List.nil_append, hs, get_entB, hlk, pick_min, hg] <;> rfl) (fun hb174 => ?_) (fun hb174 => ?_)
                            · skip
                              have hok : lateOk w k (d + 1) = true := by simp only [lateOk, hbf, Bool.and_true, decide_eq_true_eq]; omega
                              have hls := lateL_yes (w := w) (a := k) (f := 30 - d) hok
                              rw [show 30 - d + 1 = 31 - d by omega, show 30 - d = 31 - (d + 1) by omega] at hls
                              have hd30 : d < 30 := by omega
                              refine Exec.skipS ?_
                              refine Exec.blk ?_
                              refine Exec.reg ?_
                              iterate 5 (refine Run.op (by simp only [go_sem, l5, l7, l42, l43, l91, l11, hend, List.nil_append, hend, List.nil_append, hs, get_entB, hlk, pick_min, hg] <;> rfl) (by simp only [go_sem] <;> rfl) ?_)
                              refine Run.yldw (args := [.leaf (.d (repD (.lt k (d + 1))))]) (by simp only [go_sem] <;> rfl) (by simp only [go_sem] <;> rfl) (by simp only [go_sem] <;> rfl) (by simp only [go_sem] <;> rfl) (by exact ⟨WkP.refl rfl, trivial⟩) (by simp only [hls, List.cons_append, List.nil_append, repV, List.map_cons, lB_cons] <;> rfl) (fun t => ?_)
                              refine Run.op (by simp only [go_sem, l5, l7, l42, l43, l91, l11, hend, List.nil_append, hend, List.nil_append, hs, get_entB, hlk, pick_min, hg] <;> rfl) (by simp only [go_sem] <;> rfl) ?_
                              refine Run.nil ?_
                              refine Exec.cnd (by simp only [go_sem, l5, l7, l42, l43, l91, l11, hend, List.nil_append, hend, List.nil_append, hs, get_entB, hlk, pick_min, hg] <;> rfl) (fun hb183 => ?_) (fun hb183 => ?_)
                              · skip
                                have ht : t = false := by simpa using hb183
                                subst ht
                                refine BlkK.ret ?_
                                refine ForK.ret ?_
                                refine Blk1K.ret ?_
                                refine BlkK.ret ?_
                                refine ForK.ret ?_
                                refine Blk1K.ret ?_
                                exact Ends.fin [] (rs := []) rfl (by simp only [go_sem, l5, l7, l42, l43, l91, l11, hend, List.nil_append, hend, List.nil_append, hs, get_entB, hlk, pick_min, hg] <;> rfl) (by simp only [go_sem, l5, l7, l42, l43, l91, l11, hend, List.nil_append, hend, List.nil_append, hs, get_entB, hlk, pick_min, hg] <;> first | rfl | ((repeat' (first | with_reducible_and_instances rfl | refine st_eq ?_ ?_ ?_ | refine ret_eq ?_ | refine tup_eq ?_ | refine tm_eq ?_ ?_ | refine arr_eq ?_ | refine cells_eq ?_ | refine val_eq ?_ | refine ls_eq ?_ ?_ | refine own_eq ?_ ?_ | refine sl_eq ?_ | refine b_eq ?_ | (refine i_eq ?_; omega))); done))
                              · skip
                                have ht : t = true := by simpa using hb183
                                subst ht
                                refine BlkK.nrm ?_
                                refine Exec.reg1 ?_
                                refine Run.op (by simp only [go_sem, l5, l7, l42, l43, l91, l11, hend, List.nil_append, hend, List.nil_append, hs, get_entB, hlk, pick_min, hg] <;> rfl) (by simp only [go_sem] <;> rfl) ?_
                                refine Run.op (by simp only [go_sem, l5, l7, l42, l43, l91, l11, hend, List.nil_append, hend, List.nil_append, hs, get_entB, hlk, pick_min, hg]; (try simp (disch := omega) only [IntWalk.i64_in, IntWalk.u64_in, if_neg, if_pos])<;> rfl) (by simp only [go_sem] <;> rfl) ?_
                                refine Run.op (by simp only [go_sem, l5, l7, l42, l43, l91, l11, hend, List.nil_append, hend, List.nil_append, hs, get_entB, hlk, pick_min, hg] <;> rfl) (by simp only [go_sem] <;> rfl) ?_
                                refine Run.nil ?_
                                refine ForK.nxt ?_ ?_ ?_
                                · omega
                                · exact Ghost.kp [0, 11, 20, 21, 22, 23, 24, 144, 145, 146] [900, 11, 91, 21, 22] (by simp only [go_sem, l5, l7, l42, l43, l91, l11, hend, List.nil_append, hend, List.nil_append, hs, get_entB, hlk, pick_min, hg]; first | ((repeat' (first | with_reducible_and_instances rfl | refine st_eq ?_ ?_ ?_ | refine ret_eq ?_ | refine tup_eq ?_ | refine tm_eq ?_ ?_ | refine arr_eq ?_ | refine cells_eq ?_ | refine val_eq ?_ | refine ls_eq ?_ ?_ | refine own_eq ?_ ?_ | refine sl_eq ?_ | refine b_eq ?_ | (refine i_eq ?_; omega))); done) | rfl)
                                · trivial
                            · exact absurd hb174 (by simp)
                          · skip
                            have hg : decide (((d + 1 : Nat) : Int) ≤ min 30 (rd w k).day) = false := by simpa using hm
                            refine Exec.reg ?_
                            iterate 6 (refine Run.op (by simp only [go_sem, l5, l7, l42, l43, l91, l11, hend, List.nil_append, hend, List.nil_append, hs, get_entB, hlk, pick_min, hg] <;> rfl) (by simp only [go_sem] <;> rfl) ?_)
                            refine Run.skp (by simp only [go_sem] <;> rfl) (by simp only [go_sem] <;> rfl) ?_
                            refine Run.skp (by simp only [go_sem] <;> rfl) (by simp only [go_sem] <;> rfl) ?_
                            refine Run.skp (by simp only [go_sem] <;> rfl) (by simp only [go_sem] <;> rfl) ?_
                            refine Run.skp (by simp only [go_sem] <;> rfl) (by simp only [go_sem] <;> rfl) ?_
                            refine Run.skp (by simp only [go_sem] <;> rfl) (by simp only [go_sem] <;> rfl) ?_
                            refine Run.skp (by simp only [go_sem] <;> rfl) (by simp only [go_sem] <;> rfl) ?_
                            refine Run.skp (by simp only [go_sem] <;> rfl) (by simp only [go_sem] <;> rfl) ?_
                            refine Run.skp (by simp only [go_sem] <;> rfl) (by simp only [go_sem] <;> rfl) ?_
                            refine Run.skp (by simp only [go_sem] <;> rfl) (by simp only [go_sem] <;> rfl) ?_
                            refine Run.skp (by simp only [go_sem] <;> rfl) (by simp only [go_sem] <;> rfl) ?_
                            refine Run.skp (by simp only [go_sem] <;> rfl) (by simp only [go_sem] <;> rfl) ?_
                            refine Run.op (by simp only [go_sem, l5, l7, l42, l43, l91, l11, hend, List.nil_append, hend, List.nil_append, hs, get_entB, hlk, pick_min, hg] <;> rfl) (by simp only [go_sem] <;> rfl) ?_
                            refine Run.nil ?_
                            refine Exec.cndS (by simp only [go_sem, l5, l7, l42, l43, l91, l11, hend, List.nil_append, hend, List.nil_append, hs, get_entB, hlk, pick_min, hg] <;> rfl) (fun hb174 => ?_) (fun hb174 => ?_)
                            · exact absurd hb174 (by simp)
                            · skip
                              have hok : ¬ lateOk w k (d + 1) = true := by simp only [lateOk, Bool.and_eq_true, decide_eq_true_eq]; omega
                              have hls := lateL_no (w := w) (a := k) (f := 30 - d) hok
                              rw [show 30 - d + 1 = 31 - d by omega] at hls
                              refine Exec.exitS ?_
                              refine ForK.ext ?_
                              refine Blk1K.hit ?_
                              refine BlkK.nrm ?_
                              refine Exec.reg1 ?_
                              refine Run.op (by simp only [go_sem, l5, l7, l42, l43, l91, l11, hend, List.nil_append, hend, List.nil_append, hs, get_entB, hlk, pick_min, hg, hls, List.nil_append]; (try simp (disch := omega) only [IntWalk.i64_in, IntWalk.u64_in, if_neg, if_pos])<;> rfl) (by simp only [go_sem] <;> rfl) ?_
                              refine Run.op (by simp only [go_sem, l5, l7, l42, l43, l91, l11, hend, List.nil_append, hend, List.nil_append, hs, get_entB, hlk, pick_min, hg, hls, List.nil_append] <;> rfl) (by simp only [go_sem] <;> rfl) ?_
                              refine Run.nil ?_
                              refine ForK.nxt ?_ ?_ ?_
                              · omega
                              · exact Ghost.kp [0, 11, 144, 145, 146] [900, 11, 91] (by simp only [go_sem, l5, l7, l42, l43, l91, l11, hend, List.nil_append, hend, List.nil_append, hs, get_entB, hlk, pick_min, hg, hls, List.nil_append]; first | ((repeat' (first | with_reducible_and_instances rfl | refine st_eq ?_ ?_ ?_ | refine ret_eq ?_ | refine tup_eq ?_ | refine tm_eq ?_ ?_ | refine arr_eq ?_ | refine cells_eq ?_ | refine val_eq ?_ | refine ls_eq ?_ ?_ | refine own_eq ?_ ?_ | refine sl_eq ?_ | refine b_eq ?_ | (refine i_eq ?_; omega))); done) | rfl)
                              · trivial
                    · skip
                      have hend : latesF w k (w.readings.length - k) = [] := latesF_end (ge_of_dec hb147)
                      refine Exec.exitS ?_
                      refine ForK.ext ?_
                      refine Blk1K.hit ?_
                      exact Ends.fin0 [] (rs := []) rfl (by simp only [go_sem, l5, l7, l42, l43, l91, l11, hend, List.nil_append, hend, List.nil_append, hend, repV, List.map_nil] <;> rfl) (by simp only [go_sem, l5, l7, l42, l43, l91, l11, hend, List.nil_append, hend, List.nil_append, hend, repV, List.map_nil] <;> first | rfl | ((repeat' (first | with_reducible_and_instances rfl | refine st_eq ?_ ?_ ?_ | refine ret_eq ?_ | refine tup_eq ?_ | refine tm_eq ?_ ?_ | refine arr_eq ?_ | refine cells_eq ?_ | refine val_eq ?_ | refine ls_eq ?_ ?_ | refine own_eq ?_ ?_ | refine sl_eq ?_ | refine b_eq ?_ | (refine i_eq ?_; omega))); done))

end Go.Mw

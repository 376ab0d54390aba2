/- Contracts of the statements BillSums and BillRises. -/
import Derived.Test.YtabfdgdckmhhgaaB11
import Derived.Test.YtabfdgdckmhhgaaB4
import Derived.Test.YtabfdgdckmhhgaaRows
set_option linter.unusedSimpArgs false
set_option linter.unusedVariables false
set_option linter.unusedSectionVars false
set_option linter.deprecated false
namespace Go.Mw
open Go.Proofs
open Go.Bi
attribute [local go_sem] decide_true beq_self_eq_true bne_self_eq_false
theorem open_ok {a : Ac} {day known : Int} (h : startE a = 0) (hd : a.start ≤ day ∧ day ≤ 131072) (hk : 0 ≤ known ∧ known ≤ 131072) (ho : ordB a known = true) : openE a day known = 0 := by
  unfold openE
  rw [if_neg (by simp [h]), if_neg (by rw [inD_iff.2 hd, inD_iff.2 hk]; decide), if_neg (by rw [ho]; decide)]
theorem usedR_bad {a : Ac} {day known : Int} (h : openE a day known ≠ 0) : usedR a day known = (0, openE a day known) ∧ costR a day known = (0, openE a day known) := ⟨if_neg h, if_neg h⟩
theorem usedR_E (a : Ac) (day known : Int) : (usedR a day known).2 = openE a day known := by
  unfold usedR
  split
  · rename_i h; exact h.symm
  · rfl
theorem used_pt {a : Ac} (h : startE a = 0) {known : Int} (hk : 0 ≤ known ∧ known ≤ 131072) (ho : ordB a known = true) {k : Nat} (hl : k < (pts a known).length) : usedR (acD a []) (ptAt (pts a known) k).1 known = ((ptAt (pts a known) k).2 - a.fig, 0) := by
  have h2 := start_sub h (List.nil_sublist a.ds)
  have v := start_val h
  have r := rise_of v ho
  have hb := r.bnd k hl
  have h0 : openE (acD a []) (ptAt (pts a known) k).1 known = 0 := open_ok h2 ⟨hb.1, hb.2.1⟩ hk ho
  have e : usedR (acD a []) (ptAt (pts a known) k).1 known = (used (acD a []) known (-1) (ptAt (pts a known) k).1, 0) := if_pos h0
  rw [e]
  have hu : used (acD a []) known (-1) (ptAt (pts a known) k).1 = shw a (pts a known) (ptAt (pts a known) k).1 - a.fig := rfl
  rw [hu, shw_at r hl]
set_option maxRecDepth 20000 in
set_option maxHeartbeats 32000000 in
/-- meterworks/meterworkslaw13.BillRises -/
theorem c_law_BillRises (a : Ac) (day known : Int) (q : Nat) (hq : q < 65536) : Contract Try.prog 9 [acV a, .int day, .int known, .raw (.int .u16 q)] (.bool true) [] := by
  have hue := usedR_E a day known
  have hmd : (q : Int).tmod 300 = ((q % 300 : Nat) : Int) := by rw [Int.tmod_eq_emod_of_nonneg (by omega)]; omega
  refine con_of follows_mixed Try.func9 rfl (by simp only [List.length_cons, List.length_nil, Try.ntmps9]; omega) (by kernel_rfl) rfl ?_
  refine Exec.reg ?_
  iterate 2 (refine Run.o1 (by simp only [go_sem, hue, hmd, gt_iff_lt, pick_min] <;> rfl) ?_)
  refine Run.nil ?_
  refine Exec.assocS ?_
  refine Exec.reg ?_
  refine Run.o1 (by simp only [go_sem, hue, hmd, gt_iff_lt, pick_min] <;> rfl) ?_
  refine Run.c1 (c_law_large a) (by simp only [go_sem, hue, hmd, gt_iff_lt, pick_min] <;> rfl) (by simp only [go_sem, hue, hmd, gt_iff_lt, pick_min] <;> rfl) ?_
  refine Run.nil ?_
  refine Exec.cndS (by simp only [go_sem, hue, hmd, gt_iff_lt, pick_min] <;> rfl) (fun hb24 => ?_) (fun hb24 => ?_)
  · skip
    refine Exec.assocS ?_
    refine Exec.reg ?_
    refine Run.c1 (c_law_awake) (by simp only [go_sem, hue, hmd, gt_iff_lt, pick_min] <;> rfl) (by simp only [go_sem, hue, hmd, gt_iff_lt, pick_min] <;> rfl) ?_
    refine Run.o1 (by simp only [go_sem, hue, hmd, gt_iff_lt, pick_min] <;> rfl) ?_
    refine Run.nil ?_
    refine Exec.retS ?_
    exact Ends.fin [] (rs := [.tmp 8]) rfl (by simp only [go_sem, hue, hmd, gt_iff_lt, pick_min] <;> rfl) (by simp only [go_sem, hue, hmd, gt_iff_lt, pick_min] <;> first | rfl | exact eqz)
  · skip
    refine Exec.skipS ?_
    refine Exec.reg ?_
    iterate 3 (refine Run.o1 (by simp only [go_sem, hue, hmd, gt_iff_lt, pick_min] <;> rfl) ?_)
    refine Run.c1 (c_bill_Used a day known) (by simp only [go_sem, hue, hmd, gt_iff_lt, pick_min] <;> rfl) (by simp only [go_sem, hue, hmd, gt_iff_lt, pick_min] <;> rfl) ?_
    iterate 5 (refine Run.o1 (by simp only [go_sem, hue, hmd, gt_iff_lt, pick_min] <;> rfl) ?_)
    refine Run.nil ?_
    refine Exec.reg ?_
    iterate 3 (refine Run.o1 (by simp only [go_sem, hue, hmd, gt_iff_lt, pick_min] <;> rfl) ?_)
    refine Run.c1 (c_bill_Cost a day known) (by simp only [go_sem, hue, hmd, gt_iff_lt, pick_min] <;> rfl) (by simp only [go_sem, hue, hmd, gt_iff_lt, pick_min] <;> rfl) ?_
    iterate 5 (refine Run.o1 (by simp only [go_sem, hue, hmd, gt_iff_lt, pick_min] <;> rfl) ?_)
    refine Run.nil ?_
    refine Exec.assocS ?_
    refine Exec.reg ?_
    iterate 2 (refine Run.o1 (by simp only [go_sem, hue, hmd, gt_iff_lt, pick_min] <;> rfl) ?_)
    refine Run.nil ?_
    refine Exec.cndS (by simp only [go_sem, hue, hmd, gt_iff_lt, pick_min] <;> rfl) (fun hb41 => ?_) (fun hb41 => ?_)
    · skip
      have hne : openE a day known ≠ 0 := by have h := hb41; simp only [bne_iff_ne, ne_eq] at h; exact h
      obtain ⟨r1, r2⟩ := usedR_bad hne
      refine Exec.assocS ?_
      refine Exec.reg ?_
      iterate 3 (refine Run.o1 (by simp only [go_sem, hue, hmd, gt_iff_lt, pick_min, r1, r2] <;> rfl) ?_)
      iterate 2 (refine Run.y1 (by simp only [go_sem, hue, hmd, gt_iff_lt, pick_min, r1, r2] <;> rfl) ?_)
      iterate 2 (refine Run.o1 (by simp only [go_sem, hue, hmd, gt_iff_lt, pick_min, r1, r2] <;> rfl) ?_)
      iterate 3 (refine Run.y1 (by simp only [go_sem, hue, hmd, gt_iff_lt, pick_min, r1, r2] <;> rfl) ?_)
      iterate 2 (refine Run.o1 (by simp only [go_sem, hue, hmd, gt_iff_lt, pick_min, r1, r2] <;> rfl) ?_)
      refine Run.calw (by simp only [go_sem] <;> rfl) (c_law_awake) (by simp only [go_sem]) (by simp only [go_sem, hue, hmd, gt_iff_lt, pick_min, r1, r2] <;> rfl) (by simp only [go_sem, hue, hmd, gt_iff_lt, pick_min, r1, r2] <;> rfl) (by exact trivial) (fr0) (by simp only [go_sem, hue, hmd, gt_iff_lt, pick_min, r1, r2] <;> rfl) ?_
      iterate 2 (refine Run.o1 (by simp only [go_sem, hue, hmd, gt_iff_lt, pick_min, r1, r2] <;> rfl) ?_)
      refine Run.nil ?_
      refine Exec.retS ?_
      exact Ends.fin [] (rs := [.tmp 8]) rfl (by simp only [go_sem, hue, hmd, gt_iff_lt, pick_min, r1, r2] <;> rfl) (by simp only [go_sem, hue, hmd, gt_iff_lt, pick_min, r1, r2] <;> first | rfl | exact eqz)
    · skip
      have h0 : openE a day known = 0 := by have h := hb41; simp only [bne_eq_false_iff_eq] at h; exact h
      obtain ⟨hs, hd, hkw, ho⟩ := open_zero h0
      have v := start_val hs
      have hA := (start_zero hs).1
      have hst := v.start
      have hsd := v.stand
      have r1 : usedR a day known = (used a known (-1) day, 0) := if_pos h0
      have r2 : costR a day known = (cost a known (-1) day, 0) := if_pos h0
      have u1 := used_bnd v (but := -1) ho hd
      have c1 := cost_bnd v (but := -1) ho hd
      have g1 : decide (used a known (-1) day < 0) = false := decide_eq_false (by omega)
      have g2 : decide (cost a known (-1) day < 0) = false := decide_eq_false (by omega)
      have hnd : a.start ≤ (min 131072 (day + ((q % 300 : Nat) : Int))) ∧ (min 131072 (day + ((q % 300 : Nat) : Int))) ≤ 131072 ∧ day ≤ (min 131072 (day + ((q % 300 : Nat) : Int))) := by omega
      have hn0 : openE a (min 131072 (day + ((q % 300 : Nat) : Int))) known = 0 := open_ok hs (by omega) hkw ho
      have r3 : usedR a (min 131072 (day + ((q % 300 : Nat) : Int))) known = (used a known (-1) (min 131072 (day + ((q % 300 : Nat) : Int))), 0) := if_pos hn0
      have r4 : costR a (min 131072 (day + ((q % 300 : Nat) : Int))) known = (cost a known (-1) (min 131072 (day + ((q % 300 : Nat) : Int))), 0) := if_pos hn0
      have u2 := used_bnd v (but := -1) ho (day := (min 131072 (day + ((q % 300 : Nat) : Int)))) (by omega)
      have c2 := cost_bnd v (but := -1) ho (day := (min 131072 (day + ((q % 300 : Nat) : Int)))) (by omega)
      have us := (used_step v (but := -1) ho hd.1 hnd.2.2 hnd.2.1).1
      have cs := cost_step v (but := -1) ho hd.1 hnd.2.2 hnd.2.1
      have mb := mul_bnd (x := a.stand) (y := (min 131072 (day + ((q % 300 : Nat) : Int))) - day) (X := 100000) (Y := 131072) hsd (by omega)
      have g3 : decide (used a known (-1) (min 131072 (day + ((q % 300 : Nat) : Int))) < used a known (-1) day) = false := decide_eq_false (by omega)
      have g4 : decide (cost a known (-1) (min 131072 (day + ((q % 300 : Nat) : Int))) < cost a known (-1) day) = false := decide_eq_false (by omega)
      have g5 : decide (cost a known (-1) (min 131072 (day + ((q % 300 : Nat) : Int))) - cost a known (-1) day < a.stand * ((min 131072 (day + ((q % 300 : Nat) : Int))) - day)) = false := decide_eq_false (by omega)
      have hpl := pts_len a known
      have hnn := v.nns
      refine Exec.skipS ?_
      refine Exec.assocS ?_
      refine Exec.reg ?_
      refine Run.o1 (by simp only [go_sem, hue, hmd, gt_iff_lt, pick_min, r1, r2, r3, r4, hA, g1, g2, g3, g4, g5] <;> rfl) ?_
      refine Run.c1 (c_ref_Account a) (by simp only [go_sem, hue, hmd, gt_iff_lt, pick_min, r1, r2, r3, r4, hA, g1, g2, g3, g4, g5] <;> rfl) (by simp only [go_sem, hue, hmd, gt_iff_lt, pick_min, r1, r2, r3, r4, hA, g1, g2, g3, g4, g5] <;> rfl) ?_
      iterate 2 (refine Run.o1 (by simp only [go_sem, hue, hmd, gt_iff_lt, pick_min, r1, r2, r3, r4, hA, g1, g2, g3, g4, g5] <;> rfl) ?_)
      iterate 2 (refine Run.y1 (by simp only [go_sem, hue, hmd, gt_iff_lt, pick_min, r1, r2, r3, r4, hA, g1, g2, g3, g4, g5] <;> rfl) ?_)
      iterate 2 (refine Run.o1 (by simp only [go_sem, hue, hmd, gt_iff_lt, pick_min, r1, r2, r3, r4, hA, g1, g2, g3, g4, g5] <;> rfl) ?_)
      iterate 2 (refine Run.y1 (by simp only [go_sem, hue, hmd, gt_iff_lt, pick_min, r1, r2, r3, r4, hA, g1, g2, g3, g4, g5] <;> rfl) ?_)
      iterate 2 (refine Run.o1 (by simp only [go_sem, hue, hmd, gt_iff_lt, pick_min, r1, r2, r3, r4, hA, g1, g2, g3, g4, g5] <;> rfl) ?_)
      iterate 2 (refine Run.y1 (by simp only [go_sem, hue, hmd, gt_iff_lt, pick_min, r1, r2, r3, r4, hA, g1, g2, g3, g4, g5] <;> rfl) ?_)
      refine Run.o1 (by simp only [go_sem, hue, hmd, gt_iff_lt, pick_min, r1, r2, r3, r4, hA, g1, g2, g3, g4, g5] <;> rfl) ?_
      refine Run.nil ?_
      refine Exec.cndS (by simp only [go_sem, hue, hmd, gt_iff_lt, pick_min, r1, r2, r3, r4, hA, g1, g2, g3, g4, g5] <;> rfl) (fun hb70 => ?_) (fun hb70 => ?_)
      · exact absurd hb70 (by simp)
      · skip
        refine Exec.skipS ?_
        refine Exec.reg ?_
        iterate 2 (refine Run.o1 (by simp only [go_sem, hue, hmd, gt_iff_lt, pick_min, r1, r2, r3, r4, hA, g1, g2, g3, g4, g5] <;> rfl) ?_)
        iterate 3 (refine Run.o1 (by simp only [go_sem, hue, hmd, gt_iff_lt, pick_min, r1, r2, r3, r4, hA, g1, g2, g3, g4, g5]; (try simp (disch := omega) only [IntWalk.i64_in, IntWalk.u64_in, if_neg, if_pos])<;> rfl) ?_)
        iterate 2 (refine Run.o1 (by simp only [go_sem, hue, hmd, gt_iff_lt, pick_min, r1, r2, r3, r4, hA, g1, g2, g3, g4, g5] <;> rfl) ?_)
        refine Run.nil ?_
        refine Exec.reg ?_
        iterate 3 (refine Run.o1 (by simp only [go_sem, hue, hmd, gt_iff_lt, pick_min, r1, r2, r3, r4, hA, g1, g2, g3, g4, g5] <;> rfl) ?_)
        refine Run.c1 (c_bill_Used a (min 131072 (day + ((q % 300 : Nat) : Int))) known) (by simp only [go_sem, hue, hmd, gt_iff_lt, pick_min, r1, r2, r3, r4, hA, g1, g2, g3, g4, g5] <;> rfl) (by simp only [go_sem, hue, hmd, gt_iff_lt, pick_min, r1, r2, r3, r4, hA, g1, g2, g3, g4, g5] <;> rfl) ?_
        iterate 5 (refine Run.o1 (by simp only [go_sem, hue, hmd, gt_iff_lt, pick_min, r1, r2, r3, r4, hA, g1, g2, g3, g4, g5] <;> rfl) ?_)
        refine Run.nil ?_
        refine Exec.reg ?_
        iterate 3 (refine Run.o1 (by simp only [go_sem, hue, hmd, gt_iff_lt, pick_min, r1, r2, r3, r4, hA, g1, g2, g3, g4, g5] <;> rfl) ?_)
        refine Run.c1 (c_bill_Cost a (min 131072 (day + ((q % 300 : Nat) : Int))) known) (by simp only [go_sem, hue, hmd, gt_iff_lt, pick_min, r1, r2, r3, r4, hA, g1, g2, g3, g4, g5] <;> rfl) (by simp only [go_sem, hue, hmd, gt_iff_lt, pick_min, r1, r2, r3, r4, hA, g1, g2, g3, g4, g5] <;> rfl) ?_
        iterate 5 (refine Run.o1 (by simp only [go_sem, hue, hmd, gt_iff_lt, pick_min, r1, r2, r3, r4, hA, g1, g2, g3, g4, g5] <;> rfl) ?_)
        refine Run.nil ?_
        refine Exec.assocS ?_
        refine Exec.reg ?_
        iterate 3 (refine Run.o1 (by simp only [go_sem, hue, hmd, gt_iff_lt, pick_min, r1, r2, r3, r4, hA, g1, g2, g3, g4, g5] <;> rfl) ?_)
        iterate 2 (refine Run.y1 (by simp only [go_sem, hue, hmd, gt_iff_lt, pick_min, r1, r2, r3, r4, hA, g1, g2, g3, g4, g5] <;> rfl) ?_)
        iterate 2 (refine Run.o1 (by simp only [go_sem, hue, hmd, gt_iff_lt, pick_min, r1, r2, r3, r4, hA, g1, g2, g3, g4, g5] <;> rfl) ?_)
        iterate 3 (refine Run.y1 (by simp only [go_sem, hue, hmd, gt_iff_lt, pick_min, r1, r2, r3, r4, hA, g1, g2, g3, g4, g5] <;> rfl) ?_)
        iterate 2 (refine Run.o1 (by simp only [go_sem, hue, hmd, gt_iff_lt, pick_min, r1, r2, r3, r4, hA, g1, g2, g3, g4, g5] <;> rfl) ?_)
        iterate 3 (refine Run.y1 (by simp only [go_sem, hue, hmd, gt_iff_lt, pick_min, r1, r2, r3, r4, hA, g1, g2, g3, g4, g5] <;> rfl) ?_)
        iterate 2 (refine Run.o1 (by simp only [go_sem, hue, hmd, gt_iff_lt, pick_min, r1, r2, r3, r4, hA, g1, g2, g3, g4, g5] <;> rfl) ?_)
        iterate 2 (refine Run.y1 (by simp only [go_sem, hue, hmd, gt_iff_lt, pick_min, r1, r2, r3, r4, hA, g1, g2, g3, g4, g5] <;> rfl) ?_)
        refine Run.y1 (by simp only [go_sem, hue, hmd, gt_iff_lt, pick_min, r1, r2, r3, r4, hA, g1, g2, g3, g4, g5]; (try simp (disch := omega) only [IntWalk.i64_in, IntWalk.u64_in, if_neg, if_pos])<;> rfl) ?_
        iterate 4 (refine Run.y1 (by simp only [go_sem, hue, hmd, gt_iff_lt, pick_min, r1, r2, r3, r4, hA, g1, g2, g3, g4, g5] <;> rfl) ?_)
        iterate 2 (refine Run.y1 (by simp only [go_sem, hue, hmd, gt_iff_lt, pick_min, r1, r2, r3, r4, hA, g1, g2, g3, g4, g5]; (try simp (disch := omega) only [IntWalk.i64_in, IntWalk.u64_in, if_neg, if_pos])<;> rfl) ?_)
        refine Run.y1 (by simp only [go_sem, hue, hmd, gt_iff_lt, pick_min, r1, r2, r3, r4, hA, g1, g2, g3, g4, g5] <;> rfl) ?_
        refine Run.o1 (by simp only [go_sem, hue, hmd, gt_iff_lt, pick_min, r1, r2, r3, r4, hA, g1, g2, g3, g4, g5] <;> rfl) ?_
        refine Run.nil ?_
        refine Exec.cndS (by simp only [go_sem, hue, hmd, gt_iff_lt, pick_min, r1, r2, r3, r4, hA, g1, g2, g3, g4, g5] <;> rfl) (fun hb118 => ?_) (fun hb118 => ?_)
        · exact absurd hb118 (by simp)
        · skip
          refine Exec.skipS ?_
          refine Exec.reg ?_
          iterate 3 (refine Run.o1 (by simp only [go_sem, hue, hmd, gt_iff_lt, pick_min, r1, r2, r3, r4, hA, g1, g2, g3, g4, g5] <;> rfl) ?_)
          refine Run.nil ?_
          refine Exec.reg ?_
          iterate 2 (refine Run.o1 (by simp only [go_sem, hue, hmd, gt_iff_lt, pick_min, r1, r2, r3, r4, hA, g1, g2, g3, g4, g5] <;> rfl) ?_)
          refine Run.nil ?_
          refine Exec.reg ?_
          refine Run.nilC 18 7 1000 47 6 (by simp only [go_sem] <;> rfl) (by simp only [go_sem] <;> rfl) (by simp only [go_sem] <;> rfl) (by omega) (by omega) (by simp only [go_sem] <;> rfl) ?_
          refine Run.frz 1000 (by simp only [go_sem] <;> rfl) ?_
          iterate 2 (refine Run.o1 (by simp only [go_sem, hue, hmd, gt_iff_lt, pick_min, r1, r2, r3, r4, hA, g1, g2, g3, g4, g5] <;> rfl) ?_)
          refine Run.c1 (c_ref_Points a v known) (by simp only [go_sem, hue, hmd, gt_iff_lt, pick_min, r1, r2, r3, r4, hA, g1, g2, g3, g4, g5] <;> rfl) (by simp only [go_sem, hue, hmd, gt_iff_lt, pick_min, r1, r2, r3, r4, hA, g1, g2, g3, g4, g5] <;> rfl) ?_
          refine Run.o1 (by simp only [go_sem, hue, hmd, gt_iff_lt, pick_min, r1, r2, r3, r4, hA, g1, g2, g3, g4, g5] <;> rfl) ?_
          refine Run.nil ?_
          refine Exec.assocS ?_
          refine Exec.reg ?_
          refine Run.o1 (by simp only [go_sem, hue, hmd, gt_iff_lt, pick_min, r1, r2, r3, r4, hA, g1, g2, g3, g4, g5] <;> rfl) ?_
          refine Run.nil ?_
          refine Exec.blk ?_
          refine Exec.forA [2, 4, 18, 19, 20] [4, 18] ((pts a known).length) (fun k => [.slot 20 (.int k)]) (fun _ => True) (fun k => by simp only [go_sem] <;> rfl) (by simp only [go_sem, hue, hmd, gt_iff_lt, pick_min, r1, r2, r3, r4, hA, g1, g2, g3, g4, g5, Int.natCast_zero] <;> rfl) ?_ (fun k hk hX => ?_)
          · trivial
          · skip
            refine Exec.assocS ?_
            refine Exec.reg ?_
            iterate 4 (refine Run.o1 (by simp only [go_sem, hue, hmd, gt_iff_lt, pick_min, r1, r2, r3, r4, hA, g1, g2, g3, g4, g5] <;> rfl) ?_)
            refine Run.nil ?_
            refine Exec.cndS (by simp only [go_sem, hue, hmd, gt_iff_lt, pick_min, r1, r2, r3, r4, hA, g1, g2, g3, g4, g5] <;> rfl) (fun hb127 => ?_) (fun hb127 => ?_)
            · skip
              have hlt := lt_of_dec hb127
              have hk1 := ptAt_get hlt
              have hpb := (rise_of v ho).bnd k hlt
              have hup := used_pt hs hkw ho hlt
              have hfg := v.fig
              refine Exec.skipS ?_
              refine Exec.blk ?_
              refine Exec.opk 15 ?_
              iterate 3 (refine OpenK.o1 (by simp only [go_sem, hue, hmd, gt_iff_lt, pick_min, r1, r2, r3, r4, hA, g1, g2, g3, g4, g5, hk1, hup] <;> rfl) ?_)
              refine OpenK.o1 (by simp only [go_sem, hue, hmd, gt_iff_lt, pick_min, r1, r2, r3, r4, hA, g1, g2, g3, g4, g5, hk1, hup]; (try simp (disch := omega) only [if_pos]); (try simp only [go_sem, hue, hmd, gt_iff_lt, pick_min, r1, r2, r3, r4, hA, g1, g2, g3, g4, g5, hk1, hup])<;> rfl) ?_
              iterate 3 (refine OpenK.o1 (by simp only [go_sem, hue, hmd, gt_iff_lt, pick_min, r1, r2, r3, r4, hA, g1, g2, g3, g4, g5, hk1, hup] <;> rfl) ?_)
              refine OpenK.cal (c_bill_Used (acD a []) (ptAt (pts a known) k).1 known) (by simp only [go_sem]) (by simp only [go_sem, hue, hmd, gt_iff_lt, pick_min, r1, r2, r3, r4, hA, g1, g2, g3, g4, g5, hk1, hup] <;> rfl) (by exact ⟨by first | exact WkR.pure rfl | exact WkR.nil _ | exact WkR.int (by first | omega | (simp; done) | (simp; omega)), by first | exact WkR.pure rfl | exact WkR.nil _ | exact WkR.int (by first | omega | (simp; done) | (simp; omega)), by first | exact WkR.pure rfl | exact WkR.nil _ | exact WkR.int (by first | omega | (simp; done) | (simp; omega)), trivial⟩) (fr0) (by simp only [go_sem, hue, hmd, gt_iff_lt, pick_min, r1, r2, r3, r4, hA, g1, g2, g3, g4, g5, hk1, hup] <;> rfl) (by simp only [go_sem] <;> rfl) (by simp only [go_sem] <;> rfl) ?_
              iterate 5 (refine OpenK.o1 (by simp only [go_sem, hue, hmd, gt_iff_lt, pick_min, r1, r2, r3, r4, hA, g1, g2, g3, g4, g5, hk1, hup] <;> rfl) ?_)
              refine OpenK.nil (OpenE.fin (by decide +kernel) (by decide +kernel) ?_)
              refine Exec.opk 16 ?_
              iterate 3 (refine OpenK.o1 (by simp only [go_sem, hue, hmd, gt_iff_lt, pick_min, r1, r2, r3, r4, hA, g1, g2, g3, g4, g5, hk1, hup] <;> rfl) ?_)
              iterate 3 (refine OpenK.y1 (by simp only [go_sem, hue, hmd, gt_iff_lt, pick_min, r1, r2, r3, r4, hA, g1, g2, g3, g4, g5, hk1, hup] <;> rfl) ?_)
              refine OpenK.y1 (by simp only [go_sem, hue, hmd, gt_iff_lt, pick_min, r1, r2, r3, r4, hA, g1, g2, g3, g4, g5, hk1, hup]; (try simp (disch := omega) only [if_pos]); (try simp only [go_sem, hue, hmd, gt_iff_lt, pick_min, r1, r2, r3, r4, hA, g1, g2, g3, g4, g5, hk1, hup])<;> rfl) ?_
              iterate 4 (refine OpenK.y1 (by simp only [go_sem, hue, hmd, gt_iff_lt, pick_min, r1, r2, r3, r4, hA, g1, g2, g3, g4, g5, hk1, hup] <;> rfl) ?_)
              refine OpenK.y1 (by simp only [go_sem, hue, hmd, gt_iff_lt, pick_min, r1, r2, r3, r4, hA, g1, g2, g3, g4, g5, hk1, hup]; (try simp (disch := omega) only [IntWalk.i64_in, IntWalk.u64_in, if_neg, if_pos])<;> rfl) ?_
              refine OpenK.y1 (by simp only [go_sem, hue, hmd, gt_iff_lt, pick_min, r1, r2, r3, r4, hA, g1, g2, g3, g4, g5, hk1, hup] <;> rfl) ?_
              refine OpenK.o1 (by simp only [go_sem, hue, hmd, gt_iff_lt, pick_min, r1, r2, r3, r4, hA, g1, g2, g3, g4, g5, hk1, hup] <;> rfl) ?_
              refine OpenK.nil (OpenE.fin (by decide +kernel) (by decide +kernel) ?_)
              refine Exec.cnd (by simp only [go_sem, hue, hmd, gt_iff_lt, pick_min, r1, r2, r3, r4, hA, g1, g2, g3, g4, g5, hk1, hup] <;> rfl) (fun hb154 => ?_) (fun hb154 => ?_)
              · exact absurd hb154 (by simp)
              · skip
                refine BlkK.nrm ?_
                refine Exec.reg1 ?_
                refine Run.o1 (by simp only [go_sem, hue, hmd, gt_iff_lt, pick_min, r1, r2, r3, r4, hA, g1, g2, g3, g4, g5, hk1, hup] <;> rfl) ?_
                refine Run.o1 (by simp only [go_sem, hue, hmd, gt_iff_lt, pick_min, r1, r2, r3, r4, hA, g1, g2, g3, g4, g5, hk1, hup]; (try simp (disch := omega) only [IntWalk.i64_in, IntWalk.u64_in, if_neg, if_pos])<;> rfl) ?_
                refine Run.o1 (by simp only [go_sem, hue, hmd, gt_iff_lt, pick_min, r1, r2, r3, r4, hA, g1, g2, g3, g4, g5, hk1, hup] <;> rfl) ?_
                refine Run.nil ?_
                refine ForK.nxt ?_ ?_ ?_
                · omega
                · exact Ghost.kp [2, 4, 18, 19, 20] [4, 18] (by simp only [go_sem, hue, hmd, gt_iff_lt, pick_min, r1, r2, r3, r4, hA, g1, g2, g3, g4, g5, hk1, hup] <;> first | ((repeat' (first | with_reducible_and_instances rfl | refine st_eq ?_ ?_ ?_ | refine ret_eq ?_ | refine tup_eq ?_ | refine tm_eq ?_ ?_ | refine arr_eq ?_ | refine cells_eq ?_ | refine val_eq ?_ | refine ls_eq ?_ ?_ | refine own_eq ?_ ?_ | refine sl_eq ?_ | refine b_eq ?_ | (refine i_eq ?_; omega))); (all_goals rfl)) | rfl)
                · trivial
            · skip
              refine Exec.exitS ?_
              refine ForK.ext ?_
              refine BlkK.hit ?_
              refine Exec.reg ?_
              refine Run.c1 (c_law_awake) (by simp only [go_sem, hue, hmd, gt_iff_lt, pick_min, r1, r2, r3, r4, hA, g1, g2, g3, g4, g5] <;> rfl) (by simp only [go_sem, hue, hmd, gt_iff_lt, pick_min, r1, r2, r3, r4, hA, g1, g2, g3, g4, g5] <;> rfl) ?_
              refine Run.o1 (by simp only [go_sem, hue, hmd, gt_iff_lt, pick_min, r1, r2, r3, r4, hA, g1, g2, g3, g4, g5] <;> rfl) ?_
              refine Run.nil ?_
              exact Ends.fin [] (rs := [.tmp 8]) rfl (by simp only [go_sem, hue, hmd, gt_iff_lt, pick_min, r1, r2, r3, r4, hA, g1, g2, g3, g4, g5] <;> rfl) (by simp only [go_sem, hue, hmd, gt_iff_lt, pick_min, r1, r2, r3, r4, hA, g1, g2, g3, g4, g5] <;> first | rfl | exact eqz)

end Go.Mw
namespace Go.Proofs.Ytabfdgdckmhhgaa
open Go.Mw Go.ChangeShapes Go.WideShapes Go.ChangeAt Go.RowKit

theorem own : ownKnob Try.prog.godebug = none := by kernel_rfl
theorem laidOut : laidOutB Try.prog = true := by kernel_rfl
set_option maxRecDepth 100000 in
theorem lifted (os : Os) (started : os.Started) (H : Type) (enc : TypeId × Value → H) :
    ReturnsInHanded {} Try.checked os 9 .any (Rows.billRisesSpec.pre6 enc Try.prog Try.f9 Rows.billRisesRow.domain false) (Rows.billRisesSpec.post enc Try.prog Try.f9 false true false false) := by
  refine returnsInHanded_of_change (C := Try.checked) own started (by kernel_rfl) Try.func9
    (ChangeSpec.witness6 (enc := enc) (C := Try.checked) false ⟨#[], #[.agg #[.int .i64 0, .int .i64 0, .int .i64 0, .int .i64 0, .slice none 0 0, .slice none 0 0, .slice none 0 0, .slice none 0 0], .int .i64 0, .int .i64 0, .int .u16 0], []⟩ 8 (by kernel_rfl) (by kernel_rfl) (by kernel_rfl) (by kernel_rfl)) ?_
  intro W base args ds gs before hval0 hW hcnd _
  have hval : ∀ (j : Nat) t v, Try.f9.params[j]? = some t → args[j]? = some v → Value.okWide Try.prog W .any base t v := hval0
  have hW' := hW
  obtain ⟨p, q, hA0, hV, rfl, hfz, hnd⟩ := hW
  have hA : DataW.TrodAll enc Try.prog W 0 (fun _ => true) true Try.f9.params.toList args.toList ds p := hA0
  rw [Try.params9] at hA hval
  obtain ⟨v0, v1, v2, v3, d0, d1, d2, d3, p0, p1, p2, p3, rfl, rfl, rfl, h0, h1, h2, h3⟩ := trodAll_four hA
  obtain ⟨rfl, rfl⟩ := trodVars_none hV
  obtain ⟨x0, hx0⟩ := ac_read (hval 0 27 v0 rfl rfl) h0
  obtain ⟨x1, hb1, hx1⟩ := int_read (k := .i64) (P := Try.prog) (by kernel_rfl) (hval 1 3 v1 rfl rfl) h1
  obtain ⟨x2, hb2, hx2⟩ := int_read (k := .i64) (P := Try.prog) (by kernel_rfl) (hval 2 3 v2 rfl rfl) h2
  obtain ⟨x3, hb3, hx3⟩ := u16_read (P := Try.prog) (by kernel_rfl) (hval 3 43 v3 rfl rfl) h3
  refine (row_con (c_law_BillRises x0 x1 x2 x3 (by omega)) W [v0, v1, v2, v3] ⟨hx0, hx1, hx2, hx3, trivial⟩).mono fun e W' ⟨he, hb⟩ => ?_
  exact ⟨_, he, post_below (tb := 4) hW' hb rfl rfl rfl (by kernel_rfl) laidOut (by decide +kernel)⟩
theorem holds : Rows.BillRisesSaid :=
  OpenClaim.holds_of_wide 9 Try.f9 rfl rfl rfl rfl rfl rfl rfl ⟨rfl, rfl, rfl, rfl, rfl⟩ rfl rfl rfl rfl rfl (by kernel_rfl) Try.func9 (by kernel_rfl)
    (of_decide_eq_true (by kernel_rfl)) (by unfold Func.isWrapper; first | (rw [if_pos (by decide +kernel)]; kernel_rfl) | (rw [if_neg (by decide +kernel)]; exact ⟨rfl, rfl⟩))
    (fun os started H enc _ => lifted os started H enc)
end Go.Proofs.Ytabfdgdckmhhgaa
#print axioms Go.Proofs.Ytabfdgdckmhhgaa.holds

/- Contracts of the functions that the bill reaches: the program's own answers. -/
import Derived.Test.YtabfdgdckmhhgaaB10
set_option linter.unusedSimpArgs false
set_option linter.unusedVariables false
set_option linter.unusedSectionVars false
set_option linter.deprecated false
namespace Go.Mw
open Go.Proofs
open Go.Bi
attribute [local go_sem] decide_true beq_self_eq_true bne_self_eq_false
theorem ords_one (a : Ac) (d : Int) : ordsB a [d] = ordB a d := by simp [ordsB]
/-- What is known, or why it is not. -/
def openV (a : Ac) (day known : Int) : AV := if openE a day known = 0 then .tup [(false, [.d (.pt (stD a (ntsOf a known) (tells a known (-1))))]), (false, [.d (.i 0)])] else .tup [(false, [.d (.raw (.pointer none))]), (false, [.d (.i (openE a day known))])]
set_option maxRecDepth 20000 in
set_option maxHeartbeats 8000000 in
/-- meterworks/bill.open -/
theorem c_open (a : Ac) (day known : Int) : Contract Try.prog 26 [acV a, .int day, .int known] (openV a day known) [] := by
  have h1o := ords_one a known
  refine con_of follows_mixed Try.func26 rfl (by simp only [List.length_cons, List.length_nil, Try.ntmps26]; omega) (by kernel_rfl) rfl ?_
  refine Exec.reg ?_
  iterate 3 (refine Run.o ?_)
  refine Run.nil ?_
  refine Exec.reg ?_
  refine Run.o ?_
  refine Run.c1 (c_check a) (by simp only [go_sem] <;> rfl) (by simp only [go_sem] <;> rfl) ?_
  refine Run.o ?_
  refine Run.nil ?_
  refine Exec.blk ?_
  refine Exec.reg ?_
  iterate 3 (refine Run.o ?_)
  refine Run.nil ?_
  refine Exec.cnd (by simp only [go_sem] <;> rfl) (fun hb11 => ?_) (fun hb11 => ?_)
  · skip
    have hne : startE a ≠ 0 := by simpa using hb11
    have hr : openE a day known = startE a := if_pos hne
    have hv : openV a day known = .tup [(false, [.d (.raw (.pointer none))]), (false, [.d (.i (startE a))])] := by unfold openV; rw [if_neg (by rw [hr]; exact hne), hr]
    refine Exec.reg ?_
    iterate 3 (refine Run.o1 (by simp only [go_sem, hv] <;> rfl) ?_)
    refine Run.nil ?_
    refine BlkK.ret ?_
    exact Ends.fin [] (rs := [.tmp 6, .tmp 7]) rfl (by simp only [go_sem, hv] <;> rfl) (by simp only [go_sem, hv] <;> first | rfl | exact eqz)
  · skip
    have he0 : startE a = 0 := by simpa using hb11
    have v := start_val he0
    refine Exec.reg ?_
    iterate 3 (refine Run.o ?_)
    refine Run.c1 (c_bill_within _ _ _) (by simp only [go_sem] <;> rfl) (by simp only [go_sem] <;> rfl) ?_
    iterate 2 (refine Run.o ?_)
    refine Run.gop (by simp only [go_sem] <;> rfl) (by simp only [go_sem] <;> rfl) (by simp only [go_sem] <;> rfl) ?_
    refine Run.gcal (by simp only [go_sem] <;> rfl) (c_bill_isDay _) (by simp only [go_sem]) (by simp only [go_sem] <;> rfl) (by exact ⟨by first | exact WkR.pure rfl | exact WkR.nil _ | exact WkR.int (by first | omega | (simp; done) | (simp; omega)), trivial⟩) (by simp only [go_sem] <;> rfl) ?_
    refine Run.gop (by simp only [go_sem] <;> rfl) (by simp only [go_sem] <;> rfl) (by simp only [go_sem] <;> rfl) ?_
    iterate 2 (refine Run.o ?_)
    refine Run.nil ?_
    refine Exec.cnd (by simp only [go_sem] <;> rfl) (fun hb15 => ?_) (fun hb15 => ?_)
    · skip
      have hr : openE a day known = 2 := by
        unfold openE
        rw [if_neg (by simp [he0]), if_pos]
        revert hb15
        cases inD day a.start 131072 <;> cases inD known 0 131072 <;> decide
      have hv : openV a day known = .tup [(false, [.d (.raw (.pointer none))]), (false, [.d (.i 2)])] := by unfold openV; rw [if_neg (by rw [hr]; decide), hr]
      refine Exec.reg ?_
      iterate 2 (refine Run.o1 (by simp only [go_sem, hv] <;> rfl) ?_)
      refine Run.nil ?_
      refine BlkK.ret ?_
      exact Ends.fin [] (rs := [.tmp 6, .tmp 7]) rfl (by simp only [go_sem, hv] <;> rfl) (by simp only [go_sem, hv] <;> first | rfl | exact eqz)
    · skip
      have hin : inD day a.start 131072 = true ∧ inD known 0 131072 = true := by
        revert hb15
        cases inD day a.start 131072 <;> cases inD known 0 131072 <;> decide
      refine Exec.reg ?_
      iterate 3 (refine Run.o ?_)
      refine Run.frz 29 (by simp only [go_sem] <;> rfl) ?_
      refine Run.c1 (c_isOrdered a v [known] (by simp)) (by simp only [go_sem] <;> rfl) (by simp only [go_sem] <;> rfl) ?_
      iterate 2 (refine Run.o ?_)
      refine Run.nil ?_
      refine Exec.cnd (by simp only [go_sem] <;> rfl) (fun hb26 => ?_) (fun hb26 => ?_)
      · skip
        have hor : ordB a known = false := by rw [← h1o]; simpa using hb26
        have hr : openE a day known = 7 := by unfold openE; rw [if_neg (by simp [he0]), if_neg (by rw [hin.1, hin.2]; decide), if_pos hor]
        have hv : openV a day known = .tup [(false, [.d (.raw (.pointer none))]), (false, [.d (.i 7)])] := by unfold openV; rw [if_neg (by rw [hr]; decide), hr]
        refine Exec.reg ?_
        iterate 2 (refine Run.o1 (by simp only [go_sem, hv] <;> rfl) ?_)
        refine Run.nil ?_
        refine BlkK.ret ?_
        exact Ends.fin [] (rs := [.tmp 6, .tmp 7]) rfl (by simp only [go_sem, hv] <;> rfl) (by simp only [go_sem, hv] <;> first | rfl | exact eqz)
      · skip
        have hor : ordB a known = true := by rw [← h1o]; simpa using hb26
        have hr : openE a day known = 0 := by unfold openE; rw [if_neg (by simp [he0]), if_neg (by rw [hin.1, hin.2]; decide), if_neg (by rw [hor]; decide)]
        have hv : openV a day known = .tup [(false, [.d (.pt (stD a (ntsOf a known) (tells a known (-1))))]), (false, [.d (.i 0)])] := if_pos hr
        refine BlkK.nrm ?_
        refine Exec.reg ?_
        iterate 2 (refine Run.o1 (by simp only [go_sem, hv] <;> rfl) ?_)
        refine Run.c1 (c_stateOf a v known (-1)) (by simp only [go_sem, hv] <;> rfl) (by simp only [go_sem, hv] <;> rfl) ?_
        iterate 2 (refine Run.o1 (by simp only [go_sem, hv] <;> rfl) ?_)
        refine Run.nil ?_
        exact Ends.fin [] (rs := [.tmp 6, .tmp 7]) rfl (by simp only [go_sem, hv] <;> rfl) (by simp only [go_sem, hv] <;> first | rfl | exact eqz)

set_option maxRecDepth 20000 in
/-- meterworks/bill.Used -/
theorem c_bill_Used (a : Ac) (day known : Int) : Contract Try.prog 12 [acV a, .int day, .int known] (tupI [(usedR a day known).1, (usedR a day known).2]) [] := by
  refine con_of follows_mixed Try.func12 rfl (by simp only [List.length_cons, List.length_nil, Try.ntmps12]; omega) (by kernel_rfl) rfl ?_
  refine Exec.reg ?_
  iterate 3 (refine Run.o ?_)
  refine Run.nil ?_
  by_cases hok : openE a day known = 0
  · skip
    have hoo := open_zero hok
    have v := start_val hoo.1
    have hr : usedR a day known = (used a known (-1) day, 0) := if_pos hok
    have hv : openV a day known = .tup [(false, [.d (.pt (stD a (ntsOf a known) (tells a known (-1))))]), (false, [.d (.i 0)])] := if_pos hok
    refine Exec.reg ?_
    iterate 3 (refine Run.o1 (by simp only [go_sem, hv, hr] <;> rfl) ?_)
    refine Run.c1 (c_open a day known) (by simp only [go_sem, hv, hr] <;> rfl) (by simp only [go_sem, hv, hr] <;> rfl) ?_
    iterate 5 (refine Run.o1 (by simp only [go_sem, hv, hr] <;> rfl) ?_)
    refine Run.nil ?_
    refine Exec.assocS ?_
    refine Exec.reg ?_
    iterate 2 (refine Run.o1 (by simp only [go_sem, hv, hr] <;> rfl) ?_)
    refine Run.nil ?_
    refine Exec.cndS (by simp only [go_sem, hv, hr] <;> rfl) (fun hb18 => ?_) (fun hb18 => ?_)
    · exact absurd hb18 (by simp)
    · skip
      refine Exec.skipS ?_
      refine Exec.reg ?_
      iterate 2 (refine Run.o1 (by simp only [go_sem, hv, hr] <;> rfl) ?_)
      refine Run.c1 (c_state_used a v known (-1) hoo.2.2.2 day hoo.2.1) (by simp only [go_sem, hv, hr] <;> rfl) (by simp only [go_sem, hv, hr] <;> rfl) ?_
      iterate 2 (refine Run.o1 (by simp only [go_sem, hv, hr] <;> rfl) ?_)
      refine Run.nil ?_
      exact Ends.fin [] (rs := [.tmp 6, .tmp 7]) rfl (by simp only [go_sem, hv, hr] <;> rfl) (by simp only [go_sem, hv, hr] <;> first | rfl | exact eqz)
  · skip
    have hr : usedR a day known = (0, openE a day known) := if_neg hok
    have hv : openV a day known = .tup [(false, [.d (.raw (.pointer none))]), (false, [.d (.i (openE a day known))])] := if_neg hok
    refine Exec.reg ?_
    iterate 3 (refine Run.o1 (by simp only [go_sem, hv, hr] <;> rfl) ?_)
    refine Run.c1 (c_open a day known) (by simp only [go_sem, hv, hr] <;> rfl) (by simp only [go_sem, hv, hr] <;> rfl) ?_
    iterate 5 (refine Run.o1 (by simp only [go_sem, hv, hr] <;> rfl) ?_)
    refine Run.nil ?_
    refine Exec.assocS ?_
    refine Exec.reg ?_
    iterate 2 (refine Run.o1 (by simp only [go_sem, hv, hr] <;> rfl) ?_)
    refine Run.nil ?_
    refine Exec.cndS (by simp only [go_sem, hv, hr] <;> rfl) (fun hb18 => ?_) (fun hb18 => ?_)
    · skip
      refine Exec.assocS ?_
      refine Exec.reg ?_
      iterate 3 (refine Run.o1 (by simp only [go_sem, hv, hr] <;> rfl) ?_)
      refine Run.nil ?_
      refine Exec.retS ?_
      exact Ends.fin [] (rs := [.tmp 6, .tmp 7]) rfl (by simp only [go_sem, hv, hr] <;> rfl) (by simp only [go_sem, hv, hr] <;> first | rfl | exact eqz)
    · skip
      exact absurd hb18 (by simpa using hok)

set_option maxRecDepth 20000 in
/-- meterworks/bill.Cost -/
theorem c_bill_Cost (a : Ac) (day known : Int) : Contract Try.prog 14 [acV a, .int day, .int known] (tupI [(costR a day known).1, (costR a day known).2]) [] := by
  refine con_of follows_mixed Try.func14 rfl (by simp only [List.length_cons, List.length_nil, Try.ntmps14]; omega) (by kernel_rfl) rfl ?_
  refine Exec.reg ?_
  iterate 3 (refine Run.o ?_)
  refine Run.nil ?_
  by_cases hok : openE a day known = 0
  · skip
    have hoo := open_zero hok
    have v := start_val hoo.1
    have hr : costR a day known = (cost a known (-1) day, 0) := if_pos hok
    have hv : openV a day known = .tup [(false, [.d (.pt (stD a (ntsOf a known) (tells a known (-1))))]), (false, [.d (.i 0)])] := if_pos hok
    refine Exec.reg ?_
    iterate 3 (refine Run.o1 (by simp only [go_sem, hv, hr] <;> rfl) ?_)
    refine Run.c1 (c_open a day known) (by simp only [go_sem, hv, hr] <;> rfl) (by simp only [go_sem, hv, hr] <;> rfl) ?_
    iterate 5 (refine Run.o1 (by simp only [go_sem, hv, hr] <;> rfl) ?_)
    refine Run.nil ?_
    refine Exec.assocS ?_
    refine Exec.reg ?_
    iterate 2 (refine Run.o1 (by simp only [go_sem, hv, hr] <;> rfl) ?_)
    refine Run.nil ?_
    refine Exec.cndS (by simp only [go_sem, hv, hr] <;> rfl) (fun hb18 => ?_) (fun hb18 => ?_)
    · exact absurd hb18 (by simp)
    · skip
      refine Exec.skipS ?_
      refine Exec.reg ?_
      iterate 2 (refine Run.o1 (by simp only [go_sem, hv, hr] <;> rfl) ?_)
      refine Run.c1 (c_state_cost a v known (-1) hoo.2.2.2 day hoo.2.1) (by simp only [go_sem, hv, hr] <;> rfl) (by simp only [go_sem, hv, hr] <;> rfl) ?_
      iterate 2 (refine Run.o1 (by simp only [go_sem, hv, hr] <;> rfl) ?_)
      refine Run.nil ?_
      exact Ends.fin [] (rs := [.tmp 6, .tmp 7]) rfl (by simp only [go_sem, hv, hr] <;> rfl) (by simp only [go_sem, hv, hr] <;> first | rfl | exact eqz)
  · skip
    have hr : costR a day known = (0, openE a day known) := if_neg hok
    have hv : openV a day known = .tup [(false, [.d (.raw (.pointer none))]), (false, [.d (.i (openE a day known))])] := if_neg hok
    refine Exec.reg ?_
    iterate 3 (refine Run.o1 (by simp only [go_sem, hv, hr] <;> rfl) ?_)
    refine Run.c1 (c_open a day known) (by simp only [go_sem, hv, hr] <;> rfl) (by simp only [go_sem, hv, hr] <;> rfl) ?_
    iterate 5 (refine Run.o1 (by simp only [go_sem, hv, hr] <;> rfl) ?_)
    refine Run.nil ?_
    refine Exec.assocS ?_
    refine Exec.reg ?_
    iterate 2 (refine Run.o1 (by simp only [go_sem, hv, hr] <;> rfl) ?_)
    refine Run.nil ?_
    refine Exec.cndS (by simp only [go_sem, hv, hr] <;> rfl) (fun hb18 => ?_) (fun hb18 => ?_)
    · skip
      refine Exec.assocS ?_
      refine Exec.reg ?_
      iterate 3 (refine Run.o1 (by simp only [go_sem, hv, hr] <;> rfl) ?_)
      refine Run.nil ?_
      refine Exec.retS ?_
      exact Ends.fin [] (rs := [.tmp 6, .tmp 7]) rfl (by simp only [go_sem, hv, hr] <;> rfl) (by simp only [go_sem, hv, hr] <;> first | rfl | exact eqz)
    · skip
      exact absurd hb18 (by simpa using hok)

/-- What was known on the day of the bill before. -/
def prvS (a : Ac) : Nat → AV
  | 0 => .raw (.pointer none)
  | k + 1 => .leaf (.d (.pt (stD a (ntsOf a (bdAt a k)) (tells a (bdAt a k) (-1)))))
theorem prvS_zero (a : Ac) : prvS a 0 = .raw (.pointer none) := rfl
theorem prvS_pos (a : Ac) {k : Nat} (h : 0 < k) : prvS a k = .leaf (.d (.pt (stD a (ntsOf a (bdAt a (k - 1))) (tells a (bdAt a (k - 1)) (-1))))) := by
  obtain ⟨j, rfl⟩ : ∃ j, k = j + 1 := ⟨k - 1, by omega⟩
  rfl
theorem prvS_succ (a : Ac) (k : Nat) : prvS a (k + 1) = .leaf (.d (.pt (stD a (ntsOf a (bdAt a k)) (tells a (bdAt a k) (-1))))) := rfl
set_option maxRecDepth 20000 in
set_option maxHeartbeats 32000000 in
/-- meterworks/bill.Bills -/
theorem c_bill_Bills (a : Ac) : Contract Try.prog 16 [acV a] (blsR (billsR a)) [] := by
  have hz0 : bllsT a 0 = [] := rfl
  have hz1 : litTo a 0 = 0 := rfl
  have hz2 : penTo a 0 = 0 := rfl
  have hz3 := prvS_zero a
  have t00 : Int.toNat 0 * 1 = 0 := rfl
  have t01 : Int.toNat 1 * 1 = 1 := rfl
  refine con_of follows_mixed Try.func16 rfl (by simp only [List.length_cons, List.length_nil, Try.ntmps16]; omega) (by kernel_rfl) rfl ?_
  refine Exec.reg ?_
  iterate 3 (refine Run.o1 (by simp only [go_sem, t00, t01] <;> rfl) ?_)
  refine Run.nil ?_
  refine Exec.assocS ?_
  refine Exec.reg ?_
  refine Run.o1 (by simp only [go_sem, t00, t01] <;> rfl) ?_
  refine Run.c1 (c_check a) (by simp only [go_sem, t00, t01] <;> rfl) (by simp only [go_sem, t00, t01] <;> rfl) ?_
  refine Run.o1 (by simp only [go_sem, t00, t01] <;> rfl) ?_
  refine Run.nil ?_
  refine Exec.assocS ?_
  refine Exec.reg ?_
  iterate 2 (refine Run.o1 (by simp only [go_sem, t00, t01] <;> rfl) ?_)
  refine Run.nil ?_
  refine Exec.cndS (by simp only [go_sem, t00, t01] <;> rfl) (fun hb15 => ?_) (fun hb15 => ?_)
  · skip
    have hne : startE a ≠ 0 := by simpa using hb15
    have hE : billsE a = startE a := if_pos hne
    have hr : billsR a = ([], startE a) := by unfold billsR; rw [hE, if_neg hne]
    refine Exec.assocS ?_
    refine Exec.reg ?_
    iterate 3 (refine Run.o1 (by simp only [go_sem, t00, t01, hr] <;> rfl) ?_)
    refine Run.nild 2 3 (by simp only [go_sem] <;> rfl) (by simp only [go_sem] <;> rfl) ?_
    refine Run.nil ?_
    refine Exec.retS ?_
    exact Ends.fin [] (rs := [.tmp 2, .tmp 3]) rfl (by simp only [go_sem, t00, t01, hr] <;> rfl) (by simp only [go_sem, t00, t01, hr] <;> first | rfl | exact eqz)
  · skip
    have he0 : startE a = 0 := by simpa using hb15
    have v := start_val he0
    have hnb := v.nbs
    refine Exec.skipS ?_
    refine Exec.assocS ?_
    refine Exec.reg ?_
    iterate 3 (refine Run.o1 (by simp only [go_sem, t00, t01] <;> rfl) ?_)
    refine Run.c1 (c_isOrdered a v a.bs (by omega)) (by simp only [go_sem, t00, t01] <;> rfl) (by simp only [go_sem, t00, t01] <;> rfl) ?_
    refine Run.o1 (by simp only [go_sem, t00, t01] <;> rfl) ?_
    refine Run.nil ?_
    refine Exec.cndS (by simp only [go_sem, t00, t01] <;> rfl) (fun hb21 => ?_) (fun hb21 => ?_)
    · skip
      have hoo : ordsB a a.bs = false := by simpa using hb21
      have hE : billsE a = 7 := by unfold billsE; rw [if_neg (by simp [he0]), if_pos hoo]
      have hr : billsR a = ([], 7) := by unfold billsR; rw [hE]; rfl
      refine Exec.assocS ?_
      refine Exec.reg ?_
      iterate 2 (refine Run.o1 (by simp only [go_sem, t00, t01, hr] <;> rfl) ?_)
      refine Run.nild 2 3 (by simp only [go_sem] <;> rfl) (by simp only [go_sem] <;> rfl) ?_
      refine Run.nil ?_
      refine Exec.retS ?_
      exact Ends.fin [] (rs := [.tmp 2, .tmp 3]) rfl (by simp only [go_sem, t00, t01, hr] <;> rfl) (by simp only [go_sem, t00, t01, hr] <;> first | rfl | exact eqz)
    · skip
      have hoo : ordsB a a.bs = true := by simpa using hb21
      refine Exec.skipS ?_
      refine Exec.reg ?_
      refine Run.nilo 2 1000 40 3 (by simp only [go_sem] <;> rfl) (by simp only [go_sem] <;> rfl) (by omega) (by omega) (by simp only [go_sem] <;> rfl) ?_
      refine Run.o1 (by simp only [go_sem, t00, t01] <;> rfl) ?_
      refine Run.nil ?_
      refine Exec.reg ?_
      refine Run.o1 (by simp only [go_sem, t00, t01] <;> rfl) ?_
      refine Run.nil ?_
      refine Exec.assocS ?_
      refine Exec.reg ?_
      iterate 4 (refine Run.o1 (by simp only [go_sem, t00, t01] <;> rfl) ?_)
      refine Run.nil ?_
      refine Exec.blk ?_
      refine Exec.forA [1, 2, 4, 5, 23, 24, 25] [1, 4, 1000] (a.bs.length) (fun k => [.slot 25 (.int k), .slot 5 (prvS a k), .obj 4 (.cells [.d (.i (litTo a k)), .d (.i (penTo a k))]), .slot 2 (.leaf (.own 1000 0 k k)), .obj 1000 (.arr 40 3 ((bllsT a k).map encBl))]) (fun _ => True) (fun k => by simp only [go_sem] <;> rfl) (by simp only [go_sem, t00, t01, Int.natCast_zero, hz0, hz1, hz2, hz3] <;> rfl) ?_ (fun k hk hX => ?_)
      · trivial
      · skip
        refine Exec.reg ?_
        refine Run.o1 (by simp only [go_sem, t00, t01] <;> rfl) ?_
        refine Run.nil ?_
        refine Exec.cndS (by simp only [go_sem, t00, t01] <;> rfl) (fun hb26 => ?_) (fun hb26 => ?_)
        · skip
          have hlt := lt_of_dec hb26
          have hk1 : a.bs[k]? = some (bdAt a k) := bs_get hlt
          have hok := ords_bd hoo hlt
          have hdk := bd_val v hlt
          have hlb := litTo_bnd v hoo k (by omega)
          have hpb := penTo_bnd v hoo k (by omega)
          have hub := used_bnd v (but := -1) hok hdk
          have hcb := cost_bnd v (but := -1) hok hdk
          have hsl := litTo_succ a k
          have hsp := penTo_succ a k
          have hbl := blls_len a k
          have hps := prvS_succ a k
          refine Exec.skipS ?_
          refine Exec.blk ?_
          refine Exec.reg ?_
          refine Run.o1 (by simp only [go_sem, t00, t01, hk1, hbl, hps] <;> rfl) ?_
          refine Run.o1 (by simp only [go_sem, t00, t01, hk1, hbl, hps]; (try simp (disch := omega) only [if_pos]); (try simp only [go_sem, t00, t01, hk1, hbl, hps])<;> rfl) ?_
          iterate 3 (refine Run.o1 (by simp only [go_sem, t00, t01, hk1, hbl, hps] <;> rfl) ?_)
          refine Run.nil ?_
          refine Exec.reg ?_
          iterate 2 (refine Run.o1 (by simp only [go_sem, t00, t01, hk1, hbl, hps] <;> rfl) ?_)
          refine Run.c1 (c_stateOf a v (bdAt a k) (-1)) (by simp only [go_sem, t00, t01, hk1, hbl, hps] <;> rfl) (by simp only [go_sem, t00, t01, hk1, hbl, hps] <;> rfl) ?_
          refine Run.o1 (by simp only [go_sem, t00, t01, hk1, hbl, hps] <;> rfl) ?_
          refine Run.nil ?_
          refine Exec.reg ?_
          iterate 2 (refine Run.o1 (by simp only [go_sem, t00, t01, hk1, hbl, hps] <;> rfl) ?_)
          refine Run.c1 (c_state_used a v (bdAt a k) (-1) hok (bdAt a k) hdk) (by simp only [go_sem, t00, t01, hk1, hbl, hps] <;> rfl) (by simp only [go_sem, t00, t01, hk1, hbl, hps] <;> rfl) ?_
          iterate 2 (refine Run.o1 (by simp only [go_sem, t00, t01, hk1, hbl, hps] <;> rfl) ?_)
          refine Run.c1 (c_state_cost a v (bdAt a k) (-1) hok (bdAt a k) hdk) (by simp only [go_sem, t00, t01, hk1, hbl, hps] <;> rfl) (by simp only [go_sem, t00, t01, hk1, hbl, hps] <;> rfl) ?_
          iterate 3 (refine Run.o1 (by simp only [go_sem, t00, t01, hk1, hbl, hps] <;> rfl) ?_)
          refine Run.nil ?_
          refine Exec.reg ?_
          refine Run.o1 (by simp only [go_sem, t00, t01, hk1, hbl, hps]; (try simp (disch := omega) only [if_pos]); (try simp only [go_sem, t00, t01, hk1, hbl, hps])<;> rfl) ?_
          refine Run.o1 (by simp only [go_sem, t00, t01, hk1, hbl, hps] <;> rfl) ?_
          refine Run.o1 (by simp only [go_sem, t00, t01, hk1, hbl, hps]; (try simp (disch := omega) only [if_pos]); (try simp only [go_sem, t00, t01, hk1, hbl, hps])<;> rfl) ?_
          refine Run.o1 (by simp only [go_sem, t00, t01, hk1, hbl, hps] <;> rfl) ?_
          refine Run.o1 (by simp only [go_sem, t00, t01, hk1, hbl, hps]; (try simp (disch := omega) only [IntWalk.i64_in, IntWalk.u64_in, if_neg, if_pos])<;> rfl) ?_
          refine Run.o1 (by simp only [go_sem, t00, t01, hk1, hbl, hps]; (try simp (disch := omega) only [if_pos]); (try simp only [go_sem, t00, t01, hk1, hbl, hps])<;> rfl) ?_
          refine Run.o1 (by simp only [go_sem, t00, t01, hk1, hbl, hps] <;> rfl) ?_
          refine Run.o1 (by simp only [go_sem, t00, t01, hk1, hbl, hps]; (try simp (disch := omega) only [if_pos]); (try simp only [go_sem, t00, t01, hk1, hbl, hps])<;> rfl) ?_
          refine Run.o1 (by simp only [go_sem, t00, t01, hk1, hbl, hps] <;> rfl) ?_
          refine Run.o1 (by simp only [go_sem, t00, t01, hk1, hbl, hps]; (try simp (disch := omega) only [IntWalk.i64_in, IntWalk.u64_in, if_neg, if_pos])<;> rfl) ?_
          iterate 3 (refine Run.o1 (by simp only [go_sem, t00, t01, hk1, hbl, hps] <;> rfl) ?_)
          refine Run.nil ?_
          refine Exec.assocS ?_
          by_cases hk0 : k = 0
          · skip
            have hpz : prvS a k = .raw (.pointer none) := by rw [hk0]; rfl
            have hcr : corAt a k = 0 := by rw [hk0]; rfl
            refine Exec.reg ?_
            iterate 2 (refine Run.o1 (by simp only [go_sem, t00, t01, hk1, hbl, hps, hpz] <;> rfl) ?_)
            refine Run.nil ?_
            refine Exec.cndS (by simp only [go_sem, t00, t01, hk1, hbl, hps, hpz] <;> rfl) (fun hb52 => ?_) (fun hb52 => ?_)
            · exact absurd hb52 (by simp)
            · skip
              refine Exec.skipS ?_
              refine Exec.opk1 11 ?_
              iterate 3 (refine OpenK.o1 (by simp only [go_sem, t00, t01, hk1, hbl, hps, hpz] <;> rfl) ?_)
              refine OpenK.o1 (by simp only [go_sem, t00, t01, hk1, hbl, hps, hpz]; (try simp (disch := omega) only [if_pos]); (try simp only [go_sem, t00, t01, hk1, hbl, hps, hpz]) <;> first | (refine ite_run ⟨by (try simp only [List.length_append, List.length_drop, List.length_take, List.length_map, List.length_cons, List.length_nil, List.length_replicate, List.length_set, List.length_range, Nat.zero_add]); omega, by (try simp only [List.length_append, List.length_drop, List.length_take, List.length_map, List.length_cons, List.length_nil, List.length_replicate, List.length_set, List.length_range, Nat.zero_add]); omega, by repeat (first | exact al_nil | assumption | refine al_app ?_ ?_ | refine al_drop ?_ | refine al_take ?_ | exact al_map (fun _ => rfl) | exact al_rep rfl | refine al_cons rfl ?_)⟩ ?_; simp only [go_sem, t00, t01, hk1, hbl, hps, hpz] <;> rfl) | (refine ite_run ⟨by (try simp only [List.length_append, List.length_drop, List.length_take, List.length_map, List.length_cons, List.length_nil, List.length_replicate, List.length_set, List.length_range, Nat.zero_add]); omega, by repeat (first | exact al_nil | assumption | refine al_app ?_ ?_ | refine al_drop ?_ | refine al_take ?_ | exact al_map (fun _ => rfl) | exact al_rep rfl | refine al_cons rfl ?_)⟩ ?_; simp only [go_sem, t00, t01, hk1, hbl, hps, hpz] <;> rfl) | rfl) ?_
              iterate 5 (refine OpenK.o1 (by simp only [go_sem, t00, t01, hk1, hbl, hps, hpz] <;> rfl) ?_)
              refine OpenK.nil (OpenE.fin (by decide +kernel) (by decide +kernel) ?_)
              refine BlkK.nrm ?_
              refine Exec.reg1 ?_
              refine Run.o1 (by simp only [go_sem, t00, t01, hk1, hbl, hps, hpz]; (try simp (disch := omega) only [IntWalk.i64_in, IntWalk.u64_in, if_neg, if_pos])<;> rfl) ?_
              refine Run.o1 (by simp only [go_sem, t00, t01, hk1, hbl, hps, hpz] <;> rfl) ?_
              refine Run.nil ?_
              refine ForK.nxt ?_ ?_ ?_
              · omega
              · exact Ghost.kp [1, 2, 4, 5, 23, 24, 25] [1, 4, 1000] (by simp only [go_sem, t00, t01, hk1, hbl, hps, hpz] <;> first | ((repeat' (first | with_reducible_and_instances rfl | refine st_eq ?_ ?_ ?_ | refine ret_eq ?_ | refine tup_eq ?_ | refine tm_eq ?_ ?_ | refine arr_eq ?_ | refine cells_eq ?_ | refine val_eq ?_ | refine ls_eq ?_ ?_ | refine own_eq ?_ ?_ | refine sl_eq ?_ | refine b_eq ?_ | (refine i_eq ?_; omega))); (all_goals (rw [blls_succ]; simp [encBl, blAt, hcr, litTo_succ, penTo_succ]))) | rfl)
              · trivial
          · skip
            have hk0 : 0 < k := by omega
            have hpz := prvS_pos a hk0
            have hkp : a.bs[k - 1]? = some (bdAt a (k - 1)) := bs_get (by omega)
            have t1 : ((k : Int) - 1).toNat = k - 1 := by omega
            have hoj := ords_bd hoo (k := k - 1) (by omega)
            have hdj := bd_val v (k := k - 1) (by omega)
            have hc1 := cost_bnd v (but := -1) hok hdj
            have hc2 := cost_bnd v (but := -1) hoj hdj
            have hcr := cor_pos a hk0
            refine Exec.reg ?_
            iterate 2 (refine Run.o1 (by simp only [go_sem, t00, t01, hk1, hbl, hps, hpz, hkp, t1] <;> rfl) ?_)
            refine Run.nil ?_
            refine Exec.cndS (by simp only [go_sem, t00, t01, hk1, hbl, hps, hpz, hkp, t1] <;> rfl) (fun hb52 => ?_) (fun hb52 => ?_)
            · skip
              refine Exec.assocS ?_
              refine Exec.reg ?_
              iterate 3 (refine Run.o1 (by simp only [go_sem, t00, t01, hk1, hbl, hps, hpz, hkp, t1] <;> rfl) ?_)
              refine Run.o1 (by simp only [go_sem, t00, t01, hk1, hbl, hps, hpz, hkp, t1]; (try simp (disch := omega) only [IntWalk.i64_in, IntWalk.u64_in, if_neg, if_pos])<;> rfl) ?_
              refine Run.o1 (by simp only [go_sem, t00, t01, hk1, hbl, hps, hpz, hkp, t1]; (try simp (disch := omega) only [if_pos]); (try simp only [go_sem, t00, t01, hk1, hbl, hps, hpz, hkp, t1])<;> rfl) ?_
              iterate 2 (refine Run.o1 (by simp only [go_sem, t00, t01, hk1, hbl, hps, hpz, hkp, t1] <;> rfl) ?_)
              refine Run.nil ?_
              refine Exec.reg ?_
              iterate 2 (refine Run.o1 (by simp only [go_sem, t00, t01, hk1, hbl, hps, hpz, hkp, t1] <;> rfl) ?_)
              refine Run.c1 (c_state_cost a v (bdAt a k) (-1) hok (bdAt a (k - 1)) hdj) (by simp only [go_sem, t00, t01, hk1, hbl, hps, hpz, hkp, t1] <;> rfl) (by simp only [go_sem, t00, t01, hk1, hbl, hps, hpz, hkp, t1] <;> rfl) ?_
              iterate 2 (refine Run.o1 (by simp only [go_sem, t00, t01, hk1, hbl, hps, hpz, hkp, t1] <;> rfl) ?_)
              refine Run.c1 (c_state_cost a v (bdAt a (k - 1)) (-1) hoj (bdAt a (k - 1)) hdj) (by simp only [go_sem, t00, t01, hk1, hbl, hps, hpz, hkp, t1] <;> rfl) (by simp only [go_sem, t00, t01, hk1, hbl, hps, hpz, hkp, t1] <;> rfl) ?_
              refine Run.o1 (by simp only [go_sem, t00, t01, hk1, hbl, hps, hpz, hkp, t1]; (try simp (disch := omega) only [IntWalk.i64_in, IntWalk.u64_in, if_neg, if_pos])<;> rfl) ?_
              iterate 2 (refine Run.o1 (by simp only [go_sem, t00, t01, hk1, hbl, hps, hpz, hkp, t1] <;> rfl) ?_)
              refine Run.nil ?_
              refine Exec.opk1 11 ?_
              iterate 3 (refine OpenK.o1 (by simp only [go_sem, t00, t01, hk1, hbl, hps, hpz, hkp, t1] <;> rfl) ?_)
              refine OpenK.o1 (by simp only [go_sem, t00, t01, hk1, hbl, hps, hpz, hkp, t1]; (try simp (disch := omega) only [if_pos]); (try simp only [go_sem, t00, t01, hk1, hbl, hps, hpz, hkp, t1]) <;> first | (refine ite_run ⟨by (try simp only [List.length_append, List.length_drop, List.length_take, List.length_map, List.length_cons, List.length_nil, List.length_replicate, List.length_set, List.length_range, Nat.zero_add]); omega, by (try simp only [List.length_append, List.length_drop, List.length_take, List.length_map, List.length_cons, List.length_nil, List.length_replicate, List.length_set, List.length_range, Nat.zero_add]); omega, by repeat (first | exact al_nil | assumption | refine al_app ?_ ?_ | refine al_drop ?_ | refine al_take ?_ | exact al_map (fun _ => rfl) | exact al_rep rfl | refine al_cons rfl ?_)⟩ ?_; simp only [go_sem, t00, t01, hk1, hbl, hps, hpz, hkp, t1] <;> rfl) | (refine ite_run ⟨by (try simp only [List.length_append, List.length_drop, List.length_take, List.length_map, List.length_cons, List.length_nil, List.length_replicate, List.length_set, List.length_range, Nat.zero_add]); omega, by repeat (first | exact al_nil | assumption | refine al_app ?_ ?_ | refine al_drop ?_ | refine al_take ?_ | exact al_map (fun _ => rfl) | exact al_rep rfl | refine al_cons rfl ?_)⟩ ?_; simp only [go_sem, t00, t01, hk1, hbl, hps, hpz, hkp, t1] <;> rfl) | rfl) ?_
              iterate 5 (refine OpenK.o1 (by simp only [go_sem, t00, t01, hk1, hbl, hps, hpz, hkp, t1] <;> rfl) ?_)
              refine OpenK.nil (OpenE.fin (by decide +kernel) (by decide +kernel) ?_)
              refine BlkK.nrm ?_
              refine Exec.reg1 ?_
              refine Run.o1 (by simp only [go_sem, t00, t01, hk1, hbl, hps, hpz, hkp, t1]; (try simp (disch := omega) only [IntWalk.i64_in, IntWalk.u64_in, if_neg, if_pos])<;> rfl) ?_
              refine Run.o1 (by simp only [go_sem, t00, t01, hk1, hbl, hps, hpz, hkp, t1] <;> rfl) ?_
              refine Run.nil ?_
              refine ForK.nxt ?_ ?_ ?_
              · omega
              · exact Ghost.kp [1, 2, 4, 5, 23, 24, 25] [1, 4, 1000] (by simp only [go_sem, t00, t01, hk1, hbl, hps, hpz, hkp, t1] <;> first | ((repeat' (first | with_reducible_and_instances rfl | refine st_eq ?_ ?_ ?_ | refine ret_eq ?_ | refine tup_eq ?_ | refine tm_eq ?_ ?_ | refine arr_eq ?_ | refine cells_eq ?_ | refine val_eq ?_ | refine ls_eq ?_ ?_ | refine own_eq ?_ ?_ | refine sl_eq ?_ | refine b_eq ?_ | (refine i_eq ?_; omega))); (all_goals (rw [blls_succ]; simp [encBl, blAt, hcr, litTo_succ, penTo_succ]))) | rfl)
              · trivial
            · exact absurd hb52 (by simp)
        · skip
          have hke : k = a.bs.length := by have := ge_of_dec hb26; omega
          subst hke
          have hE : billsE a = 0 := by unfold billsE; rw [if_neg (by simp [he0]), if_neg (by rw [hoo]; decide)]
          have hr : billsR a = (bllsT a a.bs.length, 0) := if_pos hE
          have hta : List.take a.bs.length (List.map encBl (bllsT a a.bs.length)) = List.map encBl (bllsT a a.bs.length) := List.take_of_length_le (by simp [blls_len])
          have hbl := blls_len a a.bs.length
          refine Exec.exitS ?_
          refine ForK.ext ?_
          refine BlkK.hit ?_
          refine Exec.reg ?_
          refine Run.frz 1000 (by simp only [go_sem, hbl, hta] <;> rfl) ?_
          iterate 3 (refine Run.o1 (by simp only [go_sem, t00, t01, hr, hbl] <;> rfl) ?_)
          refine Run.nil ?_
          exact Ends.fin [] (rs := [.tmp 2, .tmp 3]) rfl (by simp only [go_sem, t00, t01, hr, hbl] <;> rfl) (by simp only [go_sem, t00, t01, hr, hbl] <;> first | rfl | exact eqz)

set_option maxRecDepth 20000 in
/-- meterworks/bill.Owed_1 -/
theorem c_Owed_1 (d day : Int) : Contract Try.prog 38 [.int d, .leaf (.d (.pt [.i day]))] (.bool (decide (day < d))) [] := by
  refine con_of follows_mixed Try.func38 rfl (by simp only [List.length_cons, List.length_nil, Try.ntmps38]; omega) (by kernel_rfl) rfl ?_
  refine Exec.reg ?_
  refine Run.o1 (by simp only [go_sem, gt_iff_lt] <;> rfl) ?_
  refine Run.nil ?_
  refine Exec.reg ?_
  iterate 4 (refine Run.o1 (by simp only [go_sem, gt_iff_lt] <;> rfl) ?_)
  refine Run.nil ?_
  exact Ends.fin [] (rs := [.tmp 3]) rfl (by simp only [go_sem, gt_iff_lt] <;> rfl) (by simp only [go_sem, gt_iff_lt] <;> first | rfl | exact eqz)

set_option maxRecDepth 20000 in
/-- slices.IndexFunc[[]int,int] -/
theorem c_IndexFunc_int {g : FuncId} {ds : List D} (p : Int → Bool) (hg : canCall Try.prog g = true) (l : List Int) (hl : l.length ≤ 1000) (hp : ∀ s, s ∈ l → Contract Try.prog g (.int s :: ds.map fun x => .leaf (.d x)) (.bool (p s)) []) : Contract Try.prog 37 [.leaf (.d (intsD l)), .leaf (.d (.fn g ds))] (.int (idxI (l.findIdx? p))) [] := by
  refine con_of follows_mixed Try.func37 rfl (by simp only [List.length_cons, List.length_nil, Try.ntmps37]; omega) (by kernel_rfl) rfl ?_
  refine Exec.reg ?_
  refine Run.o ?_
  refine Run.nil ?_
  refine Exec.assocS ?_
  refine Exec.reg ?_
  iterate 3 (refine Run.o ?_)
  refine Run.nil ?_
  refine Exec.blk ?_
  refine Exec.forA [0, 1, 7, 8] [] (l.length) (fun k => [.slot 8 (.int k)]) (fun k => (l.take k).any p = false) (fun k => by simp only [go_sem] <;> rfl) (by simp only [go_sem] <;> rfl) ?_ (fun k hk hX => ?_)
  · rfl
  · skip
    refine Exec.reg ?_
    refine Run.o ?_
    refine Run.nil ?_
    refine Exec.cndS (by simp only [go_sem] <;> rfl) (fun hb9 => ?_) (fun hb9 => ?_)
    · skip
      have hlt := lt_of_dec hb9
      obtain ⟨s, hs⟩ := elem_of hb9
      refine Exec.skipS ?_
      refine Exec.blk ?_
      refine Exec.reg ?_
      iterate 2 (refine Run.o1 (by simp only [go_sem, hs] <;> rfl) ?_)
      refine Run.nil ?_
      refine Exec.reg ?_
      iterate 3 (refine Run.o1 (by simp only [go_sem, hs] <;> rfl) ?_)
      refine Run.o1 (by simp only [go_sem, hs]; (try simp (disch := omega) only [if_pos]); (try simp only [go_sem, hs])<;> rfl) ?_
      refine Run.o1 (by simp only [go_sem, hs] <;> rfl) ?_
      refine Run.calw (by simp only [go_sem] <;> rfl) (hp s (List.mem_of_getElem? hs)) (by assumption) (by simp only [go_sem, hs] <;> rfl) (by simp only [go_sem, hs] <;> rfl) (by exact ⟨by first | exact WkR.pure rfl | exact WkR.nil _ | exact WkR.int (by omega), wkr_caps _ _ _⟩) (fr0) (by simp only [go_sem, hs] <;> rfl) ?_
      refine Run.nil ?_
      refine Exec.cnd (by simp only [go_sem, hs] <;> rfl) (fun hb16 => ?_) (fun hb16 => ?_)
      · skip
        have hr := find_at hX hs hb16
        refine Exec.reg ?_
        iterate 2 (refine Run.o1 (by simp only [go_sem, hs, hr, idxI] <;> rfl) ?_)
        refine Run.nil ?_
        refine BlkK.ret ?_
        refine ForK.ret ?_
        refine BlkK.ret ?_
        exact Ends.fin [] (rs := [.tmp 4]) rfl (by simp only [go_sem, hs, hr, idxI] <;> rfl) (by simp only [go_sem, hs, hr, idxI] <;> first | rfl | exact eqz)
      · skip
        refine BlkK.nrm ?_
        refine Exec.reg1 ?_
        refine Run.o1 (by simp only [go_sem, hs]; (try simp (disch := omega) only [IntWalk.i64_in, IntWalk.u64_in, if_neg, if_pos])<;> rfl) ?_
        refine Run.o1 (by simp only [go_sem, hs] <;> rfl) ?_
        refine Run.nil ?_
        refine ForK.nxt ?_ ?_ ?_
        · omega
        · exact Ghost.kp [0, 1, 7, 8] [] (by simp only [go_sem, hs] <;> first | exact eqz | rfl)
        · exact any_step hX hs hb16
    · skip
      have hr := find_none hX (ge_of_dec hb9)
      refine Exec.exitS ?_
      refine ForK.ext ?_
      refine BlkK.hit ?_
      refine Exec.reg ?_
      refine Run.o1 (by simp only [go_sem, hr, idxI] <;> rfl) ?_
      refine Run.nil ?_
      exact Ends.fin [] (rs := [.tmp 4]) rfl (by simp only [go_sem, hr, idxI] <;> rfl) (by simp only [go_sem, hr, idxI] <;> first | rfl | exact eqz)

set_option maxRecDepth 20000 in
set_option maxHeartbeats 32000000 in
/-- meterworks/bill.Owed -/
theorem c_bill_Owed (a : Ac) (day : Int) : Contract Try.prog 18 [acV a, .int day] (tupI [(owedR a day).1, (owedR a day).2]) [] := by
  refine con_of follows_mixed Try.func18 rfl (by simp only [List.length_cons, List.length_nil, Try.ntmps18]; omega) (by kernel_rfl) rfl ?_
  refine Exec.reg ?_
  iterate 4 (refine Run.o ?_)
  refine Run.nil ?_
  by_cases hok : openE a day day = 0
  · skip
    have hoo := open_zero hok
    have v := start_val hoo.1
    have hnb := v.nbs
    have hv : openV a day day = .tup [(false, [.d (.pt (stD a (ntsOf a day) (tells a day (-1))))]), (false, [.d (.i 0)])] := if_pos hok
    refine Exec.reg ?_
    iterate 3 (refine Run.o1 (by simp only [go_sem, hv, gt_iff_lt] <;> rfl) ?_)
    refine Run.c1 (c_open a day day) (by simp only [go_sem, hv, gt_iff_lt] <;> rfl) (by simp only [go_sem, hv, gt_iff_lt] <;> rfl) ?_
    iterate 5 (refine Run.o1 (by simp only [go_sem, hv, gt_iff_lt] <;> rfl) ?_)
    refine Run.nil ?_
    refine Exec.assocS ?_
    refine Exec.reg ?_
    iterate 2 (refine Run.o1 (by simp only [go_sem, hv, gt_iff_lt] <;> rfl) ?_)
    refine Run.nil ?_
    refine Exec.cndS (by simp only [go_sem, hv, gt_iff_lt] <;> rfl) (fun hb19 => ?_) (fun hb19 => ?_)
    · exact absurd hb19 (by simp)
    · skip
      refine Exec.skipS ?_
      by_cases hI : ∃ i, a.bs.findIdx? (fun d => decide (day < d)) = some i
      · skip
        obtain ⟨n, hI⟩ := hI
        have hnl := (List.findIdx?_eq_some_iff_getElem.1 hI).1
        have hbu : bUp a day = n := by unfold bUp; rw [hI]
        have hmt : List.take n (List.map encInt a.bs) = List.map encInt (a.bs.take n) := List.map_take.symm
        have g1 : decide ((n : Int) < 0) = false := decide_eq_false (by omega)
        have g2 : ((n : Int)).toNat = n := rfl
        refine Exec.reg ?_
        refine Run.frz 3 (by simp only [go_sem] <;> rfl) ?_
        iterate 3 (refine Run.o1 (by simp only [go_sem, hv, gt_iff_lt, hI, idxI, g1, g2, hmt] <;> rfl) ?_)
        refine Run.frz 23 (by simp only [go_sem] <;> rfl) ?_
        refine Run.c1 (c_IndexFunc_int (fun d => decide (day < d)) (ds := [.pt [.i day]]) (by simp only [go_sem]) a.bs (by omega) (fun s _ => c_Owed_1 s day)) (by simp only [go_sem, hv, gt_iff_lt, hI, idxI, g1, g2, hmt] <;> rfl) (by simp only [go_sem, hv, gt_iff_lt, hI, idxI, g1, g2, hmt] <;> rfl) ?_
        refine Run.o1 (by simp only [go_sem, hv, gt_iff_lt, hI, idxI, g1, g2, hmt] <;> rfl) ?_
        refine Run.nil ?_
        refine Exec.assocS ?_
        refine Exec.reg ?_
        iterate 2 (refine Run.o1 (by simp only [go_sem, hv, gt_iff_lt, hI, idxI, g1, g2, hmt] <;> rfl) ?_)
        refine Run.nil ?_
        refine Exec.cndS (by simp only [go_sem, hv, gt_iff_lt, hI, idxI, g1, g2, hmt] <;> rfl) (fun hb26 => ?_) (fun hb26 => ?_)
        · exact absurd hb26 (by simp)
        · skip
          refine Exec.skipS ?_
          refine Exec.assocS ?_
          by_cases hob : ordsB a (a.bs.take n) = true
          · skip
            have hE : owedE a day = 0 := by unfold owedE; rw [hbu, if_neg (by simp [hok]), if_neg (by rw [hob]; decide)]
            have hr : owedR a day = (cost a day (-1) day - penTo a n, 0) := by unfold owedR; rw [if_pos hE, hbu]
            have hcb := cost_bnd v (but := -1) hoo.2.2.2 hoo.2.1
            refine Exec.opk 9 ?_
            iterate 4 (refine OpenK.o1 (by simp only [go_sem, hv, gt_iff_lt, hI, idxI, g1, g2, hmt, hob, hr] <;> rfl) ?_)
            refine OpenK.o1 (by simp only [go_sem, hv, gt_iff_lt, hI, idxI, g1, g2, hmt, hob, hr]; (try simp (disch := omega) only [if_pos]); (try simp only [go_sem, hv, gt_iff_lt, hI, idxI, g1, g2, hmt, hob, hr])<;> rfl) ?_
            refine OpenK.cal (c_isOrdered a v (a.bs.take n) (by rw [List.length_take]; omega)) (by simp only [go_sem]) (by simp only [go_sem, hv, gt_iff_lt, hI, idxI, g1, g2, hmt, hob, hr] <;> rfl) (by exact ⟨by first | exact WkR.pure rfl | exact WkR.nil _ | exact WkR.int (by first | omega | (simp; done) | (simp; omega)), by first | exact WkR.pure rfl | exact WkR.nil _ | exact WkR.int (by first | omega | (simp; done) | (simp; omega)), trivial⟩) (fr0) (by simp only [go_sem, hv, gt_iff_lt, hI, idxI, g1, g2, hmt, hob, hr] <;> rfl) (by simp only [go_sem] <;> rfl) (by simp only [go_sem] <;> rfl) ?_
            refine OpenK.o1 (by simp only [go_sem, hv, gt_iff_lt, hI, idxI, g1, g2, hmt, hob, hr] <;> rfl) ?_
            refine OpenK.nil (OpenE.fin (by decide +kernel) (by decide +kernel) ?_)
            refine Exec.cndS (by simp only [go_sem, hv, gt_iff_lt, hI, idxI, g1, g2, hmt, hob, hr] <;> rfl) (fun hb36 => ?_) (fun hb36 => ?_)
            · exact absurd hb36 (by simp)
            · skip
              refine Exec.skipS ?_
              refine Exec.reg ?_
              iterate 2 (refine Run.o1 (by simp only [go_sem, hv, gt_iff_lt, hI, idxI, g1, g2, hmt, hob, hr] <;> rfl) ?_)
              refine Run.c1 (c_state_cost a v day (-1) hoo.2.2.2 day hoo.2.1) (by simp only [go_sem, hv, gt_iff_lt, hI, idxI, g1, g2, hmt, hob, hr] <;> rfl) (by simp only [go_sem, hv, gt_iff_lt, hI, idxI, g1, g2, hmt, hob, hr] <;> rfl) ?_
              refine Run.o1 (by simp only [go_sem, hv, gt_iff_lt, hI, idxI, g1, g2, hmt, hob, hr] <;> rfl) ?_
              refine Run.nil ?_
              refine Exec.assocS ?_
              refine Exec.reg ?_
              iterate 2 (refine Run.o1 (by simp only [go_sem, hv, gt_iff_lt, hI, idxI, g1, g2, hmt, hob, hr] <;> rfl) ?_)
              refine Run.nil ?_
              refine Exec.cndS (by simp only [go_sem, hv, gt_iff_lt, hI, idxI, g1, g2, hmt, hob, hr] <;> rfl) (fun hb41 => ?_) (fun hb41 => ?_)
              · skip
                have hn0 : 0 < n := by have := of_decide_eq_true hb41; omega
                have hnp : a.bs[n - 1]? = some (bdAt a (n - 1)) := bs_get (by omega)
                have t1 : ((n : Int) - 1).toNat = n - 1 := by omega
                have hor1 : ordB a (bdAt a (n - 1)) = true := ords_at hob (List.mem_of_getElem? (i := n - 1) (by rw [List.getElem?_take_of_lt (by omega)]; exact hnp))
                have hdn := bd_val v (k := n - 1) (by omega)
                have hpn : penTo a n = cost a (bdAt a (n - 1)) (-1) (bdAt a (n - 1)) := by
                  obtain ⟨j, rfl⟩ : ∃ j, n = j + 1 := ⟨n - 1, by omega⟩
                  rfl
                have hc2 := cost_bnd v (but := -1) hor1 hdn
                refine Exec.assocS ?_
                refine Exec.reg ?_
                iterate 3 (refine Run.o1 (by simp only [go_sem, hv, gt_iff_lt, hI, idxI, g1, g2, hmt, hob, hr, hnp, t1, hpn] <;> rfl) ?_)
                refine Run.o1 (by simp only [go_sem, hv, gt_iff_lt, hI, idxI, g1, g2, hmt, hob, hr, hnp, t1, hpn]; (try simp (disch := omega) only [IntWalk.i64_in, IntWalk.u64_in, if_neg, if_pos])<;> rfl) ?_
                refine Run.o1 (by simp only [go_sem, hv, gt_iff_lt, hI, idxI, g1, g2, hmt, hob, hr, hnp, t1, hpn]; (try simp (disch := omega) only [if_pos]); (try simp only [go_sem, hv, gt_iff_lt, hI, idxI, g1, g2, hmt, hob, hr, hnp, t1, hpn])<;> rfl) ?_
                iterate 2 (refine Run.o1 (by simp only [go_sem, hv, gt_iff_lt, hI, idxI, g1, g2, hmt, hob, hr, hnp, t1, hpn] <;> rfl) ?_)
                refine Run.nil ?_
                refine Exec.reg ?_
                iterate 3 (refine Run.o1 (by simp only [go_sem, hv, gt_iff_lt, hI, idxI, g1, g2, hmt, hob, hr, hnp, t1, hpn] <;> rfl) ?_)
                refine Run.c1 (c_stateOf a v (bdAt a (n - 1)) (-1)) (by simp only [go_sem, hv, gt_iff_lt, hI, idxI, g1, g2, hmt, hob, hr, hnp, t1, hpn] <;> rfl) (by simp only [go_sem, hv, gt_iff_lt, hI, idxI, g1, g2, hmt, hob, hr, hnp, t1, hpn] <;> rfl) ?_
                refine Run.o1 (by simp only [go_sem, hv, gt_iff_lt, hI, idxI, g1, g2, hmt, hob, hr, hnp, t1, hpn] <;> rfl) ?_
                refine Run.c1 (c_state_cost a v (bdAt a (n - 1)) (-1) hor1 (bdAt a (n - 1)) hdn) (by simp only [go_sem, hv, gt_iff_lt, hI, idxI, g1, g2, hmt, hob, hr, hnp, t1, hpn] <;> rfl) (by simp only [go_sem, hv, gt_iff_lt, hI, idxI, g1, g2, hmt, hob, hr, hnp, t1, hpn] <;> rfl) ?_
                refine Run.o1 (by simp only [go_sem, hv, gt_iff_lt, hI, idxI, g1, g2, hmt, hob, hr, hnp, t1, hpn]; (try simp (disch := omega) only [IntWalk.i64_in, IntWalk.u64_in, if_neg, if_pos])<;> rfl) ?_
                refine Run.o1 (by simp only [go_sem, hv, gt_iff_lt, hI, idxI, g1, g2, hmt, hob, hr, hnp, t1, hpn] <;> rfl) ?_
                refine Run.nil ?_
                refine Exec.reg ?_
                iterate 3 (refine Run.o1 (by simp only [go_sem, hv, gt_iff_lt, hI, idxI, g1, g2, hmt, hob, hr, hnp, t1, hpn] <;> rfl) ?_)
                refine Run.nil ?_
                exact Ends.fin [] (rs := [.tmp 4, .tmp 5]) rfl (by simp only [go_sem, hv, gt_iff_lt, hI, idxI, g1, g2, hmt, hob, hr, hnp, t1, hpn] <;> rfl) (by simp only [go_sem, hv, gt_iff_lt, hI, idxI, g1, g2, hmt, hob, hr, hnp, t1, hpn] <;> first | rfl | exact eqz)
              · skip
                have hn0 : n = 0 := by have := of_decide_eq_false hb41; omega
                have hpn : penTo a n = 0 := by rw [hn0]; rfl
                refine Exec.skipS ?_
                refine Exec.reg ?_
                iterate 3 (refine Run.o1 (by simp only [go_sem, hv, gt_iff_lt, hI, idxI, g1, g2, hmt, hob, hr, hpn, Int.sub_zero] <;> rfl) ?_)
                refine Run.nil ?_
                exact Ends.fin [] (rs := [.tmp 4, .tmp 5]) rfl (by simp only [go_sem, hv, gt_iff_lt, hI, idxI, g1, g2, hmt, hob, hr, hpn, Int.sub_zero] <;> rfl) (by simp only [go_sem, hv, gt_iff_lt, hI, idxI, g1, g2, hmt, hob, hr, hpn, Int.sub_zero] <;> first | rfl | exact eqz)
          · skip
            have hob : ordsB a (a.bs.take n) = false := by simpa using hob
            have hE : owedE a day = 7 := by unfold owedE; rw [hbu, if_neg (by simp [hok]), if_pos hob]
            have hr : owedR a day = (0, 7) := by unfold owedR; rw [hE]; rfl
            refine Exec.opk 9 ?_
            iterate 4 (refine OpenK.o1 (by simp only [go_sem, hv, gt_iff_lt, hI, idxI, g1, g2, hmt, hob, hr] <;> rfl) ?_)
            refine OpenK.o1 (by simp only [go_sem, hv, gt_iff_lt, hI, idxI, g1, g2, hmt, hob, hr]; (try simp (disch := omega) only [if_pos]); (try simp only [go_sem, hv, gt_iff_lt, hI, idxI, g1, g2, hmt, hob, hr])<;> rfl) ?_
            refine OpenK.cal (c_isOrdered a v (a.bs.take n) (by rw [List.length_take]; omega)) (by simp only [go_sem]) (by simp only [go_sem, hv, gt_iff_lt, hI, idxI, g1, g2, hmt, hob, hr] <;> rfl) (by exact ⟨by first | exact WkR.pure rfl | exact WkR.nil _ | exact WkR.int (by first | omega | (simp; done) | (simp; omega)), by first | exact WkR.pure rfl | exact WkR.nil _ | exact WkR.int (by first | omega | (simp; done) | (simp; omega)), trivial⟩) (fr0) (by simp only [go_sem, hv, gt_iff_lt, hI, idxI, g1, g2, hmt, hob, hr] <;> rfl) (by simp only [go_sem] <;> rfl) (by simp only [go_sem] <;> rfl) ?_
            refine OpenK.o1 (by simp only [go_sem, hv, gt_iff_lt, hI, idxI, g1, g2, hmt, hob, hr] <;> rfl) ?_
            refine OpenK.nil (OpenE.fin (by decide +kernel) (by decide +kernel) ?_)
            refine Exec.cndS (by simp only [go_sem, hv, gt_iff_lt, hI, idxI, g1, g2, hmt, hob, hr] <;> rfl) (fun hb36 => ?_) (fun hb36 => ?_)
            · skip
              refine Exec.assocS ?_
              refine Exec.reg ?_
              iterate 2 (refine Run.o1 (by simp only [go_sem, hv, gt_iff_lt, hI, idxI, g1, g2, hmt, hob, hr] <;> rfl) ?_)
              refine Run.nil ?_
              refine Exec.retS ?_
              exact Ends.fin [] (rs := [.tmp 4, .tmp 5]) rfl (by simp only [go_sem, hv, gt_iff_lt, hI, idxI, g1, g2, hmt, hob, hr] <;> rfl) (by simp only [go_sem, hv, gt_iff_lt, hI, idxI, g1, g2, hmt, hob, hr] <;> first | rfl | exact eqz)
            · exact absurd hb36 (by simp)
      · skip
        have hI : a.bs.findIdx? (fun d => decide (day < d)) = none := by
          cases h : a.bs.findIdx? (fun d => decide (day < d)) with
          | none => rfl
          | some i => exact absurd ⟨i, h⟩ hI
        obtain ⟨n, hn⟩ : ∃ n, a.bs.length = n := ⟨_, rfl⟩
        have hnl : n ≤ a.bs.length := by omega
        have hbu : bUp a day = n := by unfold bUp; rw [hI]; exact hn
        have hmt : List.take n (List.map encInt a.bs) = List.map encInt (a.bs.take n) := List.map_take.symm
        have g2 : ((n : Int)).toNat = n := rfl
        refine Exec.reg ?_
        refine Run.frz 3 (by simp only [go_sem] <;> rfl) ?_
        iterate 3 (refine Run.o1 (by simp only [go_sem, hv, gt_iff_lt, hI, idxI, hn, g2, hmt] <;> rfl) ?_)
        refine Run.frz 23 (by simp only [go_sem] <;> rfl) ?_
        refine Run.c1 (c_IndexFunc_int (fun d => decide (day < d)) (ds := [.pt [.i day]]) (by simp only [go_sem]) a.bs (by omega) (fun s _ => c_Owed_1 s day)) (by simp only [go_sem, hv, gt_iff_lt, hI, idxI, hn, g2, hmt] <;> rfl) (by simp only [go_sem, hv, gt_iff_lt, hI, idxI, hn, g2, hmt] <;> rfl) ?_
        refine Run.o1 (by simp only [go_sem, hv, gt_iff_lt, hI, idxI, hn, g2, hmt] <;> rfl) ?_
        refine Run.nil ?_
        refine Exec.assocS ?_
        refine Exec.reg ?_
        iterate 2 (refine Run.o1 (by simp only [go_sem, hv, gt_iff_lt, hI, idxI, hn, g2, hmt] <;> rfl) ?_)
        refine Run.nil ?_
        refine Exec.cndS (by simp only [go_sem, hv, gt_iff_lt, hI, idxI, hn, g2, hmt] <;> rfl) (fun hb26 => ?_) (fun hb26 => ?_)
        · skip
          refine Exec.reg ?_
          iterate 4 (refine Run.o1 (by simp only [go_sem, hv, gt_iff_lt, hI, idxI, hn, g2, hmt] <;> rfl) ?_)
          refine Run.nil ?_
          refine Exec.assocS ?_
          by_cases hob : ordsB a (a.bs.take n) = true
          · skip
            have hE : owedE a day = 0 := by unfold owedE; rw [hbu, if_neg (by simp [hok]), if_neg (by rw [hob]; decide)]
            have hr : owedR a day = (cost a day (-1) day - penTo a n, 0) := by unfold owedR; rw [if_pos hE, hbu]
            have hcb := cost_bnd v (but := -1) hoo.2.2.2 hoo.2.1
            refine Exec.opk 9 ?_
            iterate 4 (refine OpenK.o1 (by simp only [go_sem, hv, gt_iff_lt, hI, idxI, hn, g2, hmt, hob, hr] <;> rfl) ?_)
            refine OpenK.o1 (by simp only [go_sem, hv, gt_iff_lt, hI, idxI, hn, g2, hmt, hob, hr]; (try simp (disch := omega) only [if_pos]); (try simp only [go_sem, hv, gt_iff_lt, hI, idxI, hn, g2, hmt, hob, hr])<;> rfl) ?_
            refine OpenK.cal (c_isOrdered a v (a.bs.take n) (by rw [List.length_take]; omega)) (by simp only [go_sem]) (by simp only [go_sem, hv, gt_iff_lt, hI, idxI, hn, g2, hmt, hob, hr] <;> rfl) (by exact ⟨by first | exact WkR.pure rfl | exact WkR.nil _ | exact WkR.int (by first | omega | (simp; done) | (simp; omega)), by first | exact WkR.pure rfl | exact WkR.nil _ | exact WkR.int (by first | omega | (simp; done) | (simp; omega)), trivial⟩) (fr0) (by simp only [go_sem, hv, gt_iff_lt, hI, idxI, hn, g2, hmt, hob, hr] <;> rfl) (by simp only [go_sem] <;> rfl) (by simp only [go_sem] <;> rfl) ?_
            refine OpenK.o1 (by simp only [go_sem, hv, gt_iff_lt, hI, idxI, hn, g2, hmt, hob, hr] <;> rfl) ?_
            refine OpenK.nil (OpenE.fin (by decide +kernel) (by decide +kernel) ?_)
            refine Exec.cndS (by simp only [go_sem, hv, gt_iff_lt, hI, idxI, hn, g2, hmt, hob, hr] <;> rfl) (fun hb36 => ?_) (fun hb36 => ?_)
            · exact absurd hb36 (by simp)
            · skip
              refine Exec.skipS ?_
              refine Exec.reg ?_
              iterate 2 (refine Run.o1 (by simp only [go_sem, hv, gt_iff_lt, hI, idxI, hn, g2, hmt, hob, hr] <;> rfl) ?_)
              refine Run.c1 (c_state_cost a v day (-1) hoo.2.2.2 day hoo.2.1) (by simp only [go_sem, hv, gt_iff_lt, hI, idxI, hn, g2, hmt, hob, hr] <;> rfl) (by simp only [go_sem, hv, gt_iff_lt, hI, idxI, hn, g2, hmt, hob, hr] <;> rfl) ?_
              refine Run.o1 (by simp only [go_sem, hv, gt_iff_lt, hI, idxI, hn, g2, hmt, hob, hr] <;> rfl) ?_
              refine Run.nil ?_
              refine Exec.assocS ?_
              refine Exec.reg ?_
              iterate 2 (refine Run.o1 (by simp only [go_sem, hv, gt_iff_lt, hI, idxI, hn, g2, hmt, hob, hr] <;> rfl) ?_)
              refine Run.nil ?_
              refine Exec.cndS (by simp only [go_sem, hv, gt_iff_lt, hI, idxI, hn, g2, hmt, hob, hr] <;> rfl) (fun hb41 => ?_) (fun hb41 => ?_)
              · skip
                have hn0 : 0 < n := by have := of_decide_eq_true hb41; omega
                have hnp : a.bs[n - 1]? = some (bdAt a (n - 1)) := bs_get (by omega)
                have t1 : ((n : Int) - 1).toNat = n - 1 := by omega
                have hor1 : ordB a (bdAt a (n - 1)) = true := ords_at hob (List.mem_of_getElem? (i := n - 1) (by rw [List.getElem?_take_of_lt (by omega)]; exact hnp))
                have hdn := bd_val v (k := n - 1) (by omega)
                have hpn : penTo a n = cost a (bdAt a (n - 1)) (-1) (bdAt a (n - 1)) := by
                  obtain ⟨j, rfl⟩ : ∃ j, n = j + 1 := ⟨n - 1, by omega⟩
                  rfl
                have hc2 := cost_bnd v (but := -1) hor1 hdn
                refine Exec.assocS ?_
                refine Exec.reg ?_
                iterate 3 (refine Run.o1 (by simp only [go_sem, hv, gt_iff_lt, hI, idxI, hn, g2, hmt, hob, hr, hnp, t1, hpn] <;> rfl) ?_)
                refine Run.o1 (by simp only [go_sem, hv, gt_iff_lt, hI, idxI, hn, g2, hmt, hob, hr, hnp, t1, hpn]; (try simp (disch := omega) only [IntWalk.i64_in, IntWalk.u64_in, if_neg, if_pos])<;> rfl) ?_
                refine Run.o1 (by simp only [go_sem, hv, gt_iff_lt, hI, idxI, hn, g2, hmt, hob, hr, hnp, t1, hpn]; (try simp (disch := omega) only [if_pos]); (try simp only [go_sem, hv, gt_iff_lt, hI, idxI, hn, g2, hmt, hob, hr, hnp, t1, hpn])<;> rfl) ?_
                iterate 2 (refine Run.o1 (by simp only [go_sem, hv, gt_iff_lt, hI, idxI, hn, g2, hmt, hob, hr, hnp, t1, hpn] <;> rfl) ?_)
                refine Run.nil ?_
                refine Exec.reg ?_
                iterate 3 (refine Run.o1 (by simp only [go_sem, hv, gt_iff_lt, hI, idxI, hn, g2, hmt, hob, hr, hnp, t1, hpn] <;> rfl) ?_)
                refine Run.c1 (c_stateOf a v (bdAt a (n - 1)) (-1)) (by simp only [go_sem, hv, gt_iff_lt, hI, idxI, hn, g2, hmt, hob, hr, hnp, t1, hpn] <;> rfl) (by simp only [go_sem, hv, gt_iff_lt, hI, idxI, hn, g2, hmt, hob, hr, hnp, t1, hpn] <;> rfl) ?_
                refine Run.o1 (by simp only [go_sem, hv, gt_iff_lt, hI, idxI, hn, g2, hmt, hob, hr, hnp, t1, hpn] <;> rfl) ?_
                refine Run.c1 (c_state_cost a v (bdAt a (n - 1)) (-1) hor1 (bdAt a (n - 1)) hdn) (by simp only [go_sem, hv, gt_iff_lt, hI, idxI, hn, g2, hmt, hob, hr, hnp, t1, hpn] <;> rfl) (by simp only [go_sem, hv, gt_iff_lt, hI, idxI, hn, g2, hmt, hob, hr, hnp, t1, hpn] <;> rfl) ?_
                refine Run.o1 (by simp only [go_sem, hv, gt_iff_lt, hI, idxI, hn, g2, hmt, hob, hr, hnp, t1, hpn]; (try simp (disch := omega) only [IntWalk.i64_in, IntWalk.u64_in, if_neg, if_pos])<;> rfl) ?_
                refine Run.o1 (by simp only [go_sem, hv, gt_iff_lt, hI, idxI, hn, g2, hmt, hob, hr, hnp, t1, hpn] <;> rfl) ?_
                refine Run.nil ?_
                refine Exec.reg ?_
                iterate 3 (refine Run.o1 (by simp only [go_sem, hv, gt_iff_lt, hI, idxI, hn, g2, hmt, hob, hr, hnp, t1, hpn] <;> rfl) ?_)
                refine Run.nil ?_
                exact Ends.fin [] (rs := [.tmp 4, .tmp 5]) rfl (by simp only [go_sem, hv, gt_iff_lt, hI, idxI, hn, g2, hmt, hob, hr, hnp, t1, hpn] <;> rfl) (by simp only [go_sem, hv, gt_iff_lt, hI, idxI, hn, g2, hmt, hob, hr, hnp, t1, hpn] <;> first | rfl | exact eqz)
              · skip
                have hn0 : n = 0 := by have := of_decide_eq_false hb41; omega
                have hpn : penTo a n = 0 := by rw [hn0]; rfl
                refine Exec.skipS ?_
                refine Exec.reg ?_
                iterate 3 (refine Run.o1 (by simp only [go_sem, hv, gt_iff_lt, hI, idxI, hn, g2, hmt, hob, hr, hpn, Int.sub_zero] <;> rfl) ?_)
                refine Run.nil ?_
                exact Ends.fin [] (rs := [.tmp 4, .tmp 5]) rfl (by simp only [go_sem, hv, gt_iff_lt, hI, idxI, hn, g2, hmt, hob, hr, hpn, Int.sub_zero] <;> rfl) (by simp only [go_sem, hv, gt_iff_lt, hI, idxI, hn, g2, hmt, hob, hr, hpn, Int.sub_zero] <;> first | rfl | exact eqz)
          · skip
            have hob : ordsB a (a.bs.take n) = false := by simpa using hob
            have hE : owedE a day = 7 := by unfold owedE; rw [hbu, if_neg (by simp [hok]), if_pos hob]
            have hr : owedR a day = (0, 7) := by unfold owedR; rw [hE]; rfl
            refine Exec.opk 9 ?_
            iterate 4 (refine OpenK.o1 (by simp only [go_sem, hv, gt_iff_lt, hI, idxI, hn, g2, hmt, hob, hr] <;> rfl) ?_)
            refine OpenK.o1 (by simp only [go_sem, hv, gt_iff_lt, hI, idxI, hn, g2, hmt, hob, hr]; (try simp (disch := omega) only [if_pos]); (try simp only [go_sem, hv, gt_iff_lt, hI, idxI, hn, g2, hmt, hob, hr])<;> rfl) ?_
            refine OpenK.cal (c_isOrdered a v (a.bs.take n) (by rw [List.length_take]; omega)) (by simp only [go_sem]) (by simp only [go_sem, hv, gt_iff_lt, hI, idxI, hn, g2, hmt, hob, hr] <;> rfl) (by exact ⟨by first | exact WkR.pure rfl | exact WkR.nil _ | exact WkR.int (by first | omega | (simp; done) | (simp; omega)), by first | exact WkR.pure rfl | exact WkR.nil _ | exact WkR.int (by first | omega | (simp; done) | (simp; omega)), trivial⟩) (fr0) (by simp only [go_sem, hv, gt_iff_lt, hI, idxI, hn, g2, hmt, hob, hr] <;> rfl) (by simp only [go_sem] <;> rfl) (by simp only [go_sem] <;> rfl) ?_
            refine OpenK.o1 (by simp only [go_sem, hv, gt_iff_lt, hI, idxI, hn, g2, hmt, hob, hr] <;> rfl) ?_
            refine OpenK.nil (OpenE.fin (by decide +kernel) (by decide +kernel) ?_)
            refine Exec.cndS (by simp only [go_sem, hv, gt_iff_lt, hI, idxI, hn, g2, hmt, hob, hr] <;> rfl) (fun hb36 => ?_) (fun hb36 => ?_)
            · skip
              refine Exec.assocS ?_
              refine Exec.reg ?_
              iterate 2 (refine Run.o1 (by simp only [go_sem, hv, gt_iff_lt, hI, idxI, hn, g2, hmt, hob, hr] <;> rfl) ?_)
              refine Run.nil ?_
              refine Exec.retS ?_
              exact Ends.fin [] (rs := [.tmp 4, .tmp 5]) rfl (by simp only [go_sem, hv, gt_iff_lt, hI, idxI, hn, g2, hmt, hob, hr] <;> rfl) (by simp only [go_sem, hv, gt_iff_lt, hI, idxI, hn, g2, hmt, hob, hr] <;> first | rfl | exact eqz)
            · exact absurd hb36 (by simp)
        · exact absurd hb26 (by simp)
  · skip
    have hE : owedE a day = openE a day day := if_pos hok
    have hr : owedR a day = (0, openE a day day) := by unfold owedR; rw [hE, if_neg hok]
    have hv : openV a day day = .tup [(false, [.d (.raw (.pointer none))]), (false, [.d (.i (openE a day day))])] := if_neg hok
    refine Exec.reg ?_
    iterate 3 (refine Run.o1 (by simp only [go_sem, hv, hr] <;> rfl) ?_)
    refine Run.c1 (c_open a day day) (by simp only [go_sem, hv, hr] <;> rfl) (by simp only [go_sem, hv, hr] <;> rfl) ?_
    iterate 5 (refine Run.o1 (by simp only [go_sem, hv, hr] <;> rfl) ?_)
    refine Run.nil ?_
    refine Exec.assocS ?_
    refine Exec.reg ?_
    iterate 2 (refine Run.o1 (by simp only [go_sem, hv, hr] <;> rfl) ?_)
    refine Run.nil ?_
    refine Exec.cndS (by simp only [go_sem, hv, hr] <;> rfl) (fun hb19 => ?_) (fun hb19 => ?_)
    · skip
      refine Exec.assocS ?_
      refine Exec.reg ?_
      iterate 3 (refine Run.o1 (by simp only [go_sem, hv, hr] <;> rfl) ?_)
      refine Run.nil ?_
      refine Exec.retS ?_
      exact Ends.fin [] (rs := [.tmp 4, .tmp 5]) rfl (by simp only [go_sem, hv, hr] <;> rfl) (by simp only [go_sem, hv, hr] <;> first | rfl | exact eqz)
    · skip
      exact absurd hb19 (by simpa using hok)

set_option maxRecDepth 20000 in
set_option maxHeartbeats 8000000 in
/-- meterworks/bill.Settle -/
theorem c_bill_Settle (a : Ac) (i : Int) : Contract Try.prog 20 [acV a, .int i] (tupI [(settleR a i).1, (settleR a i).2]) [] := by
  have hda : a.ds.getD i.toNat default = dpAt a i := rfl
  refine con_of follows_mixed Try.func20 rfl (by simp only [List.length_cons, List.length_nil, Try.ntmps20]; omega) (by kernel_rfl) rfl ?_
  refine Exec.reg ?_
  iterate 3 (refine Run.o ?_)
  refine Run.nil ?_
  refine Exec.reg ?_
  refine Run.o ?_
  refine Run.c1 (c_check a) (by simp only [go_sem] <;> rfl) (by simp only [go_sem] <;> rfl) ?_
  refine Run.o ?_
  refine Run.nil ?_
  refine Exec.blk ?_
  refine Exec.reg ?_
  iterate 3 (refine Run.o ?_)
  refine Run.nil ?_
  refine Exec.cnd (by simp only [go_sem] <;> rfl) (fun hb9 => ?_) (fun hb9 => ?_)
  · skip
    have hne : startE a ≠ 0 := by simpa using hb9
    have hE : settleE a i = startE a := if_pos hne
    have hr : settleR a i = (0, startE a) := by unfold settleR; rw [hE, if_neg hne]
    refine Exec.reg ?_
    iterate 3 (refine Run.o1 (by simp only [go_sem, hr] <;> rfl) ?_)
    refine Run.nil ?_
    refine BlkK.ret ?_
    exact Ends.fin [] (rs := [.tmp 4, .tmp 5]) rfl (by simp only [go_sem, hr] <;> rfl) (by simp only [go_sem, hr] <;> first | rfl | exact eqz)
  · skip
    have he0 : startE a = 0 := by simpa using hb9
    have v := start_val he0
    have hnd := v.nds
    refine Exec.reg ?_
    iterate 4 (refine Run.o ?_)
    refine Run.o1 (by simp only [go_sem]; (try simp (disch := omega) only [IntWalk.i64_in, IntWalk.u64_in, if_neg, if_pos])<;> rfl) ?_
    refine Run.c1 (c_bill_within _ _ _) (by simp only [go_sem] <;> rfl) (by simp only [go_sem] <;> rfl) ?_
    iterate 2 (refine Run.o ?_)
    refine Run.nil ?_
    refine Exec.cnd (by simp only [go_sem] <;> rfl) (fun hb13 => ?_) (fun hb13 => ?_)
    · skip
      have hin : inD i 0 ((a.ds.length : Int) - 1) = false := by simpa using hb13
      have hE : settleE a i = 2 := by unfold settleE; rw [if_neg (by simp [he0]), if_pos hin]
      have hr : settleR a i = (0, 2) := by unfold settleR; rw [hE]; rfl
      refine Exec.reg ?_
      iterate 2 (refine Run.o1 (by simp only [go_sem, hr] <;> rfl) ?_)
      refine Run.nil ?_
      refine BlkK.ret ?_
      exact Ends.fin [] (rs := [.tmp 4, .tmp 5]) rfl (by simp only [go_sem, hr] <;> rfl) (by simp only [go_sem, hr] <;> first | rfl | exact eqz)
    · skip
      have hin : inD i 0 ((a.ds.length : Int) - 1) = true := by simpa using hb13
      have hsf := settle_facts hin
      have hdg := dp_get hsf.1
      have hi0 := (inD_iff.1 hin).1
      have hdd := settle_open v hin
      have h1o := ords_one a (dpAt a i).day
      refine BlkK.nrm ?_
      refine Exec.reg ?_
      iterate 3 (refine Run.o1 (by simp only [go_sem, hdg, hda] <;> rfl) ?_)
      refine Run.o1 (by simp only [go_sem, hdg, hda]; (try simp (disch := omega) only [if_pos]); (try simp only [go_sem, hdg, hda])<;> rfl) ?_
      iterate 3 (refine Run.o1 (by simp only [go_sem, hdg, hda] <;> rfl) ?_)
      refine Run.nil ?_
      refine Exec.assocS ?_
      refine Exec.reg ?_
      iterate 3 (refine Run.o1 (by simp only [go_sem, hdg, hda] <;> rfl) ?_)
      refine Run.frz 29 (by simp only [go_sem] <;> rfl) ?_
      refine Run.c1 (c_isOrdered a v [(dpAt a i).day] (by simp)) (by simp only [go_sem, hdg, hda] <;> rfl) (by simp only [go_sem, hdg, hda] <;> rfl) ?_
      refine Run.o1 (by simp only [go_sem, hdg, hda] <;> rfl) ?_
      refine Run.nil ?_
      refine Exec.cndS (by simp only [go_sem, hdg, hda] <;> rfl) (fun hb31 => ?_) (fun hb31 => ?_)
      · skip
        have hor : ordB a (dpAt a i).day = false := by rw [← h1o]; simpa using hb31
        have hE : settleE a i = 7 := by unfold settleE; rw [if_neg (by simp [he0]), if_neg (by rw [hin]; decide), if_pos hor]
        have hr : settleR a i = (0, 7) := by unfold settleR; rw [hE]; rfl
        refine Exec.assocS ?_
        refine Exec.reg ?_
        iterate 2 (refine Run.o1 (by simp only [go_sem, hdg, hda, hr] <;> rfl) ?_)
        refine Run.nil ?_
        refine Exec.retS ?_
        exact Ends.fin [] (rs := [.tmp 4, .tmp 5]) rfl (by simp only [go_sem, hdg, hda, hr] <;> rfl) (by simp only [go_sem, hdg, hda, hr] <;> first | rfl | exact eqz)
      · skip
        have hor : ordB a (dpAt a i).day = true := by rw [← h1o]; simpa using hb31
        have hE : settleE a i = 0 := by unfold settleE; rw [if_neg (by simp [he0]), if_neg (by rw [hin]; decide), if_neg (by rw [hor]; decide)]
        have hb1 := cost_bnd v (but := -1) hor hdd
        have hb2 := cost_bnd v (but := i) hor hdd
        have hr : settleR a i = (cost a (dpAt a i).day (-1) (dpAt a i).day - cost a (dpAt a i).day i (dpAt a i).day, 0) := if_pos hE
        refine Exec.skipS ?_
        refine Exec.opk 16 ?_
        iterate 2 (refine OpenK.o1 (by simp only [go_sem, hdg, hda, hr] <;> rfl) ?_)
        refine OpenK.cal (c_stateOf a v (dpAt a i).day (-1)) (by simp only [go_sem]) (by simp only [go_sem, hdg, hda, hr] <;> rfl) (by exact ⟨by first | exact WkR.pure rfl | exact WkR.nil _ | exact WkR.int (by first | omega | (simp; done) | (simp; omega)), by first | exact WkR.pure rfl | exact WkR.nil _ | exact WkR.int (by first | omega | (simp; done) | (simp; omega)), by first | exact WkR.pure rfl | exact WkR.nil _ | exact WkR.int (by first | omega | (simp; done) | (simp; omega)), trivial⟩) (fr0) (by simp only [go_sem, hdg, hda, hr] <;> rfl) (by simp only [go_sem] <;> rfl) (by simp only [go_sem] <;> rfl) ?_
        refine OpenK.o1 (by simp only [go_sem, hdg, hda, hr] <;> rfl) ?_
        refine OpenK.cal (c_state_cost a v (dpAt a i).day (-1) hor (dpAt a i).day hdd) (by simp only [go_sem]) (by simp only [go_sem, hdg, hda, hr] <;> rfl) (by exact ⟨by first | exact WkR.pure rfl | exact WkR.nil _ | exact WkR.int (by first | omega | (simp; done) | (simp; omega)), by first | exact WkR.pure rfl | exact WkR.nil _ | exact WkR.int (by first | omega | (simp; done) | (simp; omega)), trivial⟩) (fr0) (by simp only [go_sem, hdg, hda, hr] <;> rfl) (by simp only [go_sem] <;> rfl) (by simp only [go_sem] <;> rfl) ?_
        iterate 3 (refine OpenK.o1 (by simp only [go_sem, hdg, hda, hr] <;> rfl) ?_)
        refine OpenK.cal (c_stateOf a v (dpAt a i).day i) (by simp only [go_sem]) (by simp only [go_sem, hdg, hda, hr] <;> rfl) (by exact ⟨by first | exact WkR.pure rfl | exact WkR.nil _ | exact WkR.int (by first | omega | (simp; done) | (simp; omega)), by first | exact WkR.pure rfl | exact WkR.nil _ | exact WkR.int (by first | omega | (simp; done) | (simp; omega)), by first | exact WkR.pure rfl | exact WkR.nil _ | exact WkR.int (by first | omega | (simp; done) | (simp; omega)), trivial⟩) (fr0) (by simp only [go_sem, hdg, hda, hr] <;> rfl) (by simp only [go_sem] <;> rfl) (by simp only [go_sem] <;> rfl) ?_
        refine OpenK.o1 (by simp only [go_sem, hdg, hda, hr] <;> rfl) ?_
        refine OpenK.cal (c_state_cost a v (dpAt a i).day i hor (dpAt a i).day hdd) (by simp only [go_sem]) (by simp only [go_sem, hdg, hda, hr] <;> rfl) (by exact ⟨by first | exact WkR.pure rfl | exact WkR.nil _ | exact WkR.int (by first | omega | (simp; done) | (simp; omega)), by first | exact WkR.pure rfl | exact WkR.nil _ | exact WkR.int (by first | omega | (simp; done) | (simp; omega)), trivial⟩) (fr0) (by simp only [go_sem, hdg, hda, hr] <;> rfl) (by simp only [go_sem] <;> rfl) (by simp only [go_sem] <;> rfl) ?_
        refine OpenK.o1 (by simp only [go_sem, hdg, hda, hr]; (try simp (disch := omega) only [IntWalk.i64_in, IntWalk.u64_in, if_neg, if_pos])<;> rfl) ?_
        iterate 2 (refine OpenK.o1 (by simp only [go_sem, hdg, hda, hr] <;> rfl) ?_)
        refine OpenK.nil (OpenE.fin (by decide +kernel) (by decide +kernel) ?_)
        exact Ends.fin [] (rs := [.tmp 4, .tmp 5]) rfl (by simp only [go_sem, hdg, hda, hr] <;> rfl) (by simp only [go_sem, hdg, hda, hr] <;> first | rfl | exact eqz)

end Go.Mw
namespace Go.Mw
open Go.Proofs
open Go.Bi
attribute [local go_sem] decide_true beq_self_eq_true bne_self_eq_false
set_option maxRecDepth 20000 in
set_option maxHeartbeats 32000000 in
/-- meterworks/bill.Bills -/
theorem c_bill_BillsO (a : Ac) (hE : billsE a = 0) : Contract Try.prog 16 [acV a] (.tup [(false, [.own 1000 0 a.bs.length a.bs.length]), (false, [.d (.i 0)])]) [(1000, .arr 40 3 ((bllsT a a.bs.length).map encBl))] := by
  have hz0 : bllsT a 0 = [] := rfl
  have hz1 : litTo a 0 = 0 := rfl
  have hz2 : penTo a 0 = 0 := rfl
  have hz3 := prvS_zero a
  have t00 : Int.toNat 0 * 1 = 0 := rfl
  have t01 : Int.toNat 1 * 1 = 1 := rfl
  have he0 : startE a = 0 := by
    unfold billsE at hE
    split at hE
    · rename_i h; exact absurd hE h
    · rename_i h; simpa using h
  have hoo : ordsB a a.bs = true := by
    unfold billsE at hE
    rw [if_neg (by simp [he0])] at hE
    split at hE
    · cases hE
    · rename_i h; simpa using h
  have v := start_val he0
  have hnb := v.nbs
  refine con_of follows_mixed Try.func16 rfl (by simp only [List.length_cons, List.length_nil, Try.ntmps16]; omega) (by kernel_rfl) rfl ?_
  refine Exec.reg ?_
  iterate 3 (refine Run.o1 (by simp only [go_sem, t00, t01, he0, hoo] <;> rfl) ?_)
  refine Run.nil ?_
  refine Exec.assocS ?_
  refine Exec.reg ?_
  refine Run.o1 (by simp only [go_sem, t00, t01, he0, hoo] <;> rfl) ?_
  refine Run.c1 (c_check a) (by simp only [go_sem, t00, t01, he0, hoo] <;> rfl) (by simp only [go_sem, t00, t01, he0, hoo] <;> rfl) ?_
  refine Run.o1 (by simp only [go_sem, t00, t01, he0, hoo] <;> rfl) ?_
  refine Run.nil ?_
  refine Exec.assocS ?_
  refine Exec.reg ?_
  iterate 2 (refine Run.o1 (by simp only [go_sem, t00, t01, he0, hoo] <;> rfl) ?_)
  refine Run.nil ?_
  refine Exec.cndS (by simp only [go_sem, t00, t01, he0, hoo] <;> rfl) (fun hb15 => ?_) (fun hb15 => ?_)
  · exact absurd hb15 (by simp)
  · skip
    refine Exec.skipS ?_
    refine Exec.assocS ?_
    refine Exec.reg ?_
    iterate 3 (refine Run.o1 (by simp only [go_sem, t00, t01, he0, hoo] <;> rfl) ?_)
    refine Run.c1 (c_isOrdered a v a.bs (by omega)) (by simp only [go_sem, t00, t01, he0, hoo] <;> rfl) (by simp only [go_sem, t00, t01, he0, hoo] <;> rfl) ?_
    refine Run.o1 (by simp only [go_sem, t00, t01, he0, hoo] <;> rfl) ?_
    refine Run.nil ?_
    refine Exec.cndS (by simp only [go_sem, t00, t01, he0, hoo] <;> rfl) (fun hb21 => ?_) (fun hb21 => ?_)
    · exact absurd hb21 (by simp)
    · skip
      refine Exec.skipS ?_
      refine Exec.reg ?_
      refine Run.nilo 2 1000 40 3 (by simp only [go_sem] <;> rfl) (by simp only [go_sem] <;> rfl) (by omega) (by omega) (by simp only [go_sem] <;> rfl) ?_
      refine Run.o1 (by simp only [go_sem, t00, t01, he0, hoo] <;> rfl) ?_
      refine Run.nil ?_
      refine Exec.reg ?_
      refine Run.o1 (by simp only [go_sem, t00, t01, he0, hoo] <;> rfl) ?_
      refine Run.nil ?_
      refine Exec.assocS ?_
      refine Exec.reg ?_
      iterate 4 (refine Run.o1 (by simp only [go_sem, t00, t01, he0, hoo] <;> rfl) ?_)
      refine Run.nil ?_
      refine Exec.blk ?_
      refine Exec.forA [1, 2, 4, 5, 23, 24, 25] [1, 4, 1000] (a.bs.length) (fun k => [.slot 25 (.int k), .slot 5 (prvS a k), .obj 4 (.cells [.d (.i (litTo a k)), .d (.i (penTo a k))]), .slot 2 (.leaf (.own 1000 0 k k)), .obj 1000 (.arr 40 3 ((bllsT a k).map encBl))]) (fun _ => True) (fun k => by simp only [go_sem] <;> rfl) (by simp only [go_sem, t00, t01, he0, hoo, Int.natCast_zero, hz0, hz1, hz2, hz3] <;> rfl) ?_ (fun k hk hX => ?_)
      · trivial
      · skip
        refine Exec.reg ?_
        refine Run.o1 (by simp only [go_sem, t00, t01, he0, hoo] <;> rfl) ?_
        refine Run.nil ?_
        refine Exec.cndS (by simp only [go_sem, t00, t01, he0, hoo] <;> rfl) (fun hb26 => ?_) (fun hb26 => ?_)
        · skip
          have hlt := lt_of_dec hb26
          have hk1 : a.bs[k]? = some (bdAt a k) := bs_get hlt
          have hok := ords_bd hoo hlt
          have hdk := bd_val v hlt
          have hlb := litTo_bnd v hoo k (by omega)
          have hpb := penTo_bnd v hoo k (by omega)
          have hub := used_bnd v (but := -1) hok hdk
          have hcb := cost_bnd v (but := -1) hok hdk
          have hsl := litTo_succ a k
          have hsp := penTo_succ a k
          have hbl := blls_len a k
          have hps := prvS_succ a k
          refine Exec.skipS ?_
          refine Exec.blk ?_
          refine Exec.reg ?_
          refine Run.o1 (by simp only [go_sem, t00, t01, he0, hoo, hk1, hbl, hps] <;> rfl) ?_
          refine Run.o1 (by simp only [go_sem, t00, t01, he0, hoo, hk1, hbl, hps]; (try simp (disch := omega) only [if_pos]); (try simp only [go_sem, t00, t01, he0, hoo, hk1, hbl, hps])<;> rfl) ?_
          iterate 3 (refine Run.o1 (by simp only [go_sem, t00, t01, he0, hoo, hk1, hbl, hps] <;> rfl) ?_)
          refine Run.nil ?_
          refine Exec.reg ?_
          iterate 2 (refine Run.o1 (by simp only [go_sem, t00, t01, he0, hoo, hk1, hbl, hps] <;> rfl) ?_)
          refine Run.c1 (c_stateOf a v (bdAt a k) (-1)) (by simp only [go_sem, t00, t01, he0, hoo, hk1, hbl, hps] <;> rfl) (by simp only [go_sem, t00, t01, he0, hoo, hk1, hbl, hps] <;> rfl) ?_
          refine Run.o1 (by simp only [go_sem, t00, t01, he0, hoo, hk1, hbl, hps] <;> rfl) ?_
          refine Run.nil ?_
          refine Exec.reg ?_
          iterate 2 (refine Run.o1 (by simp only [go_sem, t00, t01, he0, hoo, hk1, hbl, hps] <;> rfl) ?_)
          refine Run.c1 (c_state_used a v (bdAt a k) (-1) hok (bdAt a k) hdk) (by simp only [go_sem, t00, t01, he0, hoo, hk1, hbl, hps] <;> rfl) (by simp only [go_sem, t00, t01, he0, hoo, hk1, hbl, hps] <;> rfl) ?_
          iterate 2 (refine Run.o1 (by simp only [go_sem, t00, t01, he0, hoo, hk1, hbl, hps] <;> rfl) ?_)
          refine Run.c1 (c_state_cost a v (bdAt a k) (-1) hok (bdAt a k) hdk) (by simp only [go_sem, t00, t01, he0, hoo, hk1, hbl, hps] <;> rfl) (by simp only [go_sem, t00, t01, he0, hoo, hk1, hbl, hps] <;> rfl) ?_
          iterate 3 (refine Run.o1 (by simp only [go_sem, t00, t01, he0, hoo, hk1, hbl, hps] <;> rfl) ?_)
          refine Run.nil ?_
          refine Exec.reg ?_
          refine Run.o1 (by simp only [go_sem, t00, t01, he0, hoo, hk1, hbl, hps]; (try simp (disch := omega) only [if_pos]); (try simp only [go_sem, t00, t01, he0, hoo, hk1, hbl, hps])<;> rfl) ?_
          refine Run.o1 (by simp only [go_sem, t00, t01, he0, hoo, hk1, hbl, hps] <;> rfl) ?_
          refine Run.o1 (by simp only [go_sem, t00, t01, he0, hoo, hk1, hbl, hps]; (try simp (disch := omega) only [if_pos]); (try simp only [go_sem, t00, t01, he0, hoo, hk1, hbl, hps])<;> rfl) ?_
          refine Run.o1 (by simp only [go_sem, t00, t01, he0, hoo, hk1, hbl, hps] <;> rfl) ?_
          refine Run.o1 (by simp only [go_sem, t00, t01, he0, hoo, hk1, hbl, hps]; (try simp (disch := omega) only [IntWalk.i64_in, IntWalk.u64_in, if_neg, if_pos])<;> rfl) ?_
          refine Run.o1 (by simp only [go_sem, t00, t01, he0, hoo, hk1, hbl, hps]; (try simp (disch := omega) only [if_pos]); (try simp only [go_sem, t00, t01, he0, hoo, hk1, hbl, hps])<;> rfl) ?_
          refine Run.o1 (by simp only [go_sem, t00, t01, he0, hoo, hk1, hbl, hps] <;> rfl) ?_
          refine Run.o1 (by simp only [go_sem, t00, t01, he0, hoo, hk1, hbl, hps]; (try simp (disch := omega) only [if_pos]); (try simp only [go_sem, t00, t01, he0, hoo, hk1, hbl, hps])<;> rfl) ?_
          refine Run.o1 (by simp only [go_sem, t00, t01, he0, hoo, hk1, hbl, hps] <;> rfl) ?_
          refine Run.o1 (by simp only [go_sem, t00, t01, he0, hoo, hk1, hbl, hps]; (try simp (disch := omega) only [IntWalk.i64_in, IntWalk.u64_in, if_neg, if_pos])<;> rfl) ?_
          iterate 3 (refine Run.o1 (by simp only [go_sem, t00, t01, he0, hoo, hk1, hbl, hps] <;> rfl) ?_)
          refine Run.nil ?_
          refine Exec.assocS ?_
          by_cases hk0 : k = 0
          · skip
            have hpz : prvS a k = .raw (.pointer none) := by rw [hk0]; rfl
            have hcr : corAt a k = 0 := by rw [hk0]; rfl
            refine Exec.reg ?_
            iterate 2 (refine Run.o1 (by simp only [go_sem, t00, t01, he0, hoo, hk1, hbl, hps, hpz] <;> rfl) ?_)
            refine Run.nil ?_
            refine Exec.cndS (by simp only [go_sem, t00, t01, he0, hoo, hk1, hbl, hps, hpz] <;> rfl) (fun hb52 => ?_) (fun hb52 => ?_)
            · exact absurd hb52 (by simp)
            · skip
              refine Exec.skipS ?_
              refine Exec.opk1 11 ?_
              iterate 3 (refine OpenK.o1 (by simp only [go_sem, t00, t01, he0, hoo, hk1, hbl, hps, hpz] <;> rfl) ?_)
              refine OpenK.o1 (by simp only [go_sem, t00, t01, he0, hoo, hk1, hbl, hps, hpz]; (try simp (disch := omega) only [if_pos]); (try simp only [go_sem, t00, t01, he0, hoo, hk1, hbl, hps, hpz]) <;> first | (refine ite_run ⟨by (try simp only [List.length_append, List.length_drop, List.length_take, List.length_map, List.length_cons, List.length_nil, List.length_replicate, List.length_set, List.length_range, Nat.zero_add]); omega, by (try simp only [List.length_append, List.length_drop, List.length_take, List.length_map, List.length_cons, List.length_nil, List.length_replicate, List.length_set, List.length_range, Nat.zero_add]); omega, by repeat (first | exact al_nil | assumption | refine al_app ?_ ?_ | refine al_drop ?_ | refine al_take ?_ | exact al_map (fun _ => rfl) | exact al_rep rfl | refine al_cons rfl ?_)⟩ ?_; simp only [go_sem, t00, t01, he0, hoo, hk1, hbl, hps, hpz] <;> rfl) | (refine ite_run ⟨by (try simp only [List.length_append, List.length_drop, List.length_take, List.length_map, List.length_cons, List.length_nil, List.length_replicate, List.length_set, List.length_range, Nat.zero_add]); omega, by repeat (first | exact al_nil | assumption | refine al_app ?_ ?_ | refine al_drop ?_ | refine al_take ?_ | exact al_map (fun _ => rfl) | exact al_rep rfl | refine al_cons rfl ?_)⟩ ?_; simp only [go_sem, t00, t01, he0, hoo, hk1, hbl, hps, hpz] <;> rfl) | rfl) ?_
              iterate 5 (refine OpenK.o1 (by simp only [go_sem, t00, t01, he0, hoo, hk1, hbl, hps, hpz] <;> rfl) ?_)
              refine OpenK.nil (OpenE.fin (by decide +kernel) (by decide +kernel) ?_)
              refine BlkK.nrm ?_
              refine Exec.reg1 ?_
              refine Run.o1 (by simp only [go_sem, t00, t01, he0, hoo, hk1, hbl, hps, hpz]; (try simp (disch := omega) only [IntWalk.i64_in, IntWalk.u64_in, if_neg, if_pos])<;> rfl) ?_
              refine Run.o1 (by simp only [go_sem, t00, t01, he0, hoo, hk1, hbl, hps, hpz] <;> rfl) ?_
              refine Run.nil ?_
              refine ForK.nxt ?_ ?_ ?_
              · omega
              · exact Ghost.kp [1, 2, 4, 5, 23, 24, 25] [1, 4, 1000] (by simp only [go_sem, t00, t01, he0, hoo, hk1, hbl, hps, hpz] <;> first | ((repeat' (first | with_reducible_and_instances rfl | refine st_eq ?_ ?_ ?_ | refine ret_eq ?_ | refine tup_eq ?_ | refine tm_eq ?_ ?_ | refine arr_eq ?_ | refine cells_eq ?_ | refine val_eq ?_ | refine ls_eq ?_ ?_ | refine own_eq ?_ ?_ | refine sl_eq ?_ | refine b_eq ?_ | (refine i_eq ?_; omega))); (all_goals (rw [blls_succ]; simp [encBl, blAt, hcr, litTo_succ, penTo_succ]))) | rfl)
              · trivial
          · skip
            have hk0 : 0 < k := by omega
            have hpz := prvS_pos a hk0
            have hkp : a.bs[k - 1]? = some (bdAt a (k - 1)) := bs_get (by omega)
            have t1 : ((k : Int) - 1).toNat = k - 1 := by omega
            have hoj := ords_bd hoo (k := k - 1) (by omega)
            have hdj := bd_val v (k := k - 1) (by omega)
            have hc1 := cost_bnd v (but := -1) hok hdj
            have hc2 := cost_bnd v (but := -1) hoj hdj
            have hcr := cor_pos a hk0
            refine Exec.reg ?_
            iterate 2 (refine Run.o1 (by simp only [go_sem, t00, t01, he0, hoo, hk1, hbl, hps, hpz, hkp, t1] <;> rfl) ?_)
            refine Run.nil ?_
            refine Exec.cndS (by simp only [go_sem, t00, t01, he0, hoo, hk1, hbl, hps, hpz, hkp, t1] <;> rfl) (fun hb52 => ?_) (fun hb52 => ?_)
            · skip
              refine Exec.assocS ?_
              refine Exec.reg ?_
              iterate 3 (refine Run.o1 (by simp only [go_sem, t00, t01, he0, hoo, hk1, hbl, hps, hpz, hkp, t1] <;> rfl) ?_)
              refine Run.o1 (by simp only [go_sem, t00, t01, he0, hoo, hk1, hbl, hps, hpz, hkp, t1]; (try simp (disch := omega) only [IntWalk.i64_in, IntWalk.u64_in, if_neg, if_pos])<;> rfl) ?_
              refine Run.o1 (by simp only [go_sem, t00, t01, he0, hoo, hk1, hbl, hps, hpz, hkp, t1]; (try simp (disch := omega) only [if_pos]); (try simp only [go_sem, t00, t01, he0, hoo, hk1, hbl, hps, hpz, hkp, t1])<;> rfl) ?_
              iterate 2 (refine Run.o1 (by simp only [go_sem, t00, t01, he0, hoo, hk1, hbl, hps, hpz, hkp, t1] <;> rfl) ?_)
              refine Run.nil ?_
              refine Exec.reg ?_
              iterate 2 (refine Run.o1 (by simp only [go_sem, t00, t01, he0, hoo, hk1, hbl, hps, hpz, hkp, t1] <;> rfl) ?_)
              refine Run.c1 (c_state_cost a v (bdAt a k) (-1) hok (bdAt a (k - 1)) hdj) (by simp only [go_sem, t00, t01, he0, hoo, hk1, hbl, hps, hpz, hkp, t1] <;> rfl) (by simp only [go_sem, t00, t01, he0, hoo, hk1, hbl, hps, hpz, hkp, t1] <;> rfl) ?_
              iterate 2 (refine Run.o1 (by simp only [go_sem, t00, t01, he0, hoo, hk1, hbl, hps, hpz, hkp, t1] <;> rfl) ?_)
              refine Run.c1 (c_state_cost a v (bdAt a (k - 1)) (-1) hoj (bdAt a (k - 1)) hdj) (by simp only [go_sem, t00, t01, he0, hoo, hk1, hbl, hps, hpz, hkp, t1] <;> rfl) (by simp only [go_sem, t00, t01, he0, hoo, hk1, hbl, hps, hpz, hkp, t1] <;> rfl) ?_
              refine Run.o1 (by simp only [go_sem, t00, t01, he0, hoo, hk1, hbl, hps, hpz, hkp, t1]; (try simp (disch := omega) only [IntWalk.i64_in, IntWalk.u64_in, if_neg, if_pos])<;> rfl) ?_
              iterate 2 (refine Run.o1 (by simp only [go_sem, t00, t01, he0, hoo, hk1, hbl, hps, hpz, hkp, t1] <;> rfl) ?_)
              refine Run.nil ?_
              refine Exec.opk1 11 ?_
              iterate 3 (refine OpenK.o1 (by simp only [go_sem, t00, t01, he0, hoo, hk1, hbl, hps, hpz, hkp, t1] <;> rfl) ?_)
              refine OpenK.o1 (by simp only [go_sem, t00, t01, he0, hoo, hk1, hbl, hps, hpz, hkp, t1]; (try simp (disch := omega) only [if_pos]); (try simp only [go_sem, t00, t01, he0, hoo, hk1, hbl, hps, hpz, hkp, t1]) <;> first | (refine ite_run ⟨by (try simp only [List.length_append, List.length_drop, List.length_take, List.length_map, List.length_cons, List.length_nil, List.length_replicate, List.length_set, List.length_range, Nat.zero_add]); omega, by (try simp only [List.length_append, List.length_drop, List.length_take, List.length_map, List.length_cons, List.length_nil, List.length_replicate, List.length_set, List.length_range, Nat.zero_add]); omega, by repeat (first | exact al_nil | assumption | refine al_app ?_ ?_ | refine al_drop ?_ | refine al_take ?_ | exact al_map (fun _ => rfl) | exact al_rep rfl | refine al_cons rfl ?_)⟩ ?_; simp only [go_sem, t00, t01, he0, hoo, hk1, hbl, hps, hpz, hkp, t1] <;> rfl) | (refine ite_run ⟨by (try simp only [List.length_append, List.length_drop, List.length_take, List.length_map, List.length_cons, List.length_nil, List.length_replicate, List.length_set, List.length_range, Nat.zero_add]); omega, by repeat (first | exact al_nil | assumption | refine al_app ?_ ?_ | refine al_drop ?_ | refine al_take ?_ | exact al_map (fun _ => rfl) | exact al_rep rfl | refine al_cons rfl ?_)⟩ ?_; simp only [go_sem, t00, t01, he0, hoo, hk1, hbl, hps, hpz, hkp, t1] <;> rfl) | rfl) ?_
              iterate 5 (refine OpenK.o1 (by simp only [go_sem, t00, t01, he0, hoo, hk1, hbl, hps, hpz, hkp, t1] <;> rfl) ?_)
              refine OpenK.nil (OpenE.fin (by decide +kernel) (by decide +kernel) ?_)
              refine BlkK.nrm ?_
              refine Exec.reg1 ?_
              refine Run.o1 (by simp only [go_sem, t00, t01, he0, hoo, hk1, hbl, hps, hpz, hkp, t1]; (try simp (disch := omega) only [IntWalk.i64_in, IntWalk.u64_in, if_neg, if_pos])<;> rfl) ?_
              refine Run.o1 (by simp only [go_sem, t00, t01, he0, hoo, hk1, hbl, hps, hpz, hkp, t1] <;> rfl) ?_
              refine Run.nil ?_
              refine ForK.nxt ?_ ?_ ?_
              · omega
              · exact Ghost.kp [1, 2, 4, 5, 23, 24, 25] [1, 4, 1000] (by simp only [go_sem, t00, t01, he0, hoo, hk1, hbl, hps, hpz, hkp, t1] <;> first | ((repeat' (first | with_reducible_and_instances rfl | refine st_eq ?_ ?_ ?_ | refine ret_eq ?_ | refine tup_eq ?_ | refine tm_eq ?_ ?_ | refine arr_eq ?_ | refine cells_eq ?_ | refine val_eq ?_ | refine ls_eq ?_ ?_ | refine own_eq ?_ ?_ | refine sl_eq ?_ | refine b_eq ?_ | (refine i_eq ?_; omega))); (all_goals (rw [blls_succ]; simp [encBl, blAt, hcr, litTo_succ, penTo_succ]))) | rfl)
              · trivial
            · exact absurd hb52 (by simp)
        · skip
          have hke : k = a.bs.length := by have := ge_of_dec hb26; omega
          subst hke
          refine Exec.exitS ?_
          refine ForK.ext ?_
          refine BlkK.hit ?_
          refine Exec.reg ?_
          iterate 3 (refine Run.o1 (by simp only [go_sem, t00, t01, he0, hoo] <;> rfl) ?_)
          refine Run.nil ?_
          exact Ends.fin [1000] (rs := [.tmp 2, .tmp 3]) rfl (by simp only [go_sem, t00, t01, he0, hoo] <;> rfl) (by simp only [go_sem, t00, t01, he0, hoo] <;> first | rfl | exact eqz)

/-- The document's example. -/
def smp : Ac := ⟨0, 1000, 500, 2, [⟨0, 300⟩, ⟨60, 400⟩], [30, 60, 90], [⟨50, 31000, 55⟩, ⟨20, 9000, 65⟩, ⟨80, 61000, 80⟩], [⟨85, 20, 50, 100, 40, 700⟩]⟩
def smp2 : Ac := { smp with ds := [⟨85, 20, 50, 100, 100, 700⟩] }
abbrev smpV : AV := .val true [.d (.i 0), .d (.i 1000), .d (.i 500), .d (.i 2), .own 3 0 2 2, .own 4 0 3 3, .own 8 0 3 3, .own 10 0 1 1]
abbrev smpO : List (Nat × AO) := [(3, .arr 69 2 (smp.ts.map encTrf)), (4, .arr 3 1 (smp.bs.map encInt)), (8, .arr 42 3 (smp.ns.map encNt)), (10, .arr 47 6 (smp.ds.map encDp))]
def bl0 : Bl := ⟨15000, 4560, 0⟩
def bl1 : Bl := ⟨21000, 6360, 900⟩
def bl2 : Bl := ⟨32000, 12660, 600⟩
theorem w_used : usedR smp 30 90 = (14666, 0) := by decide +kernel
theorem w_cost : costR smp 60 60 = (10920, 0) := by decide +kernel
theorem w_bE : billsE smp = 0 := by decide +kernel
theorem w_bll : bllsT smp 3 = [bl0, bl1, bl2] := by decide +kernel
theorem w_owed : owedR smp 75 = (4829, 0) := by decide +kernel
theorem w_set : settleR smp 0 = (-600, 0) := by decide +kernel
theorem w_set2 : settleR smp2 0 = (700, 0) := by decide +kernel
theorem k_used : Contract Try.prog 12 [acV smp, .int 30, .int 90] (tupI [14666, 0]) [] := by have := c_bill_Used smp 30 90; rw [w_used] at this; exact this
theorem k_cost : Contract Try.prog 14 [acV smp, .int 60, .int 60] (tupI [10920, 0]) [] := by have := c_bill_Cost smp 60 60; rw [w_cost] at this; exact this
theorem k_bills : Contract Try.prog 16 [acV smp] (.tup [(false, [.own 1000 0 3 3]), (false, [.d (.i 0)])]) [(1000, .arr 40 3 [encBl bl0, encBl bl1, encBl bl2])] := by
  have := c_bill_BillsO smp w_bE
  have e : smp.bs.length = 3 := rfl
  rw [e, w_bll] at this
  exact this
theorem k_owed : Contract Try.prog 18 [acV smp, .int 75] (tupI [4829, 0]) [] := by have := c_bill_Owed smp 75; rw [w_owed] at this; exact this
theorem k_set : Contract Try.prog 20 [acV smp, .int 0] (tupI [-600, 0]) [] := by have := c_bill_Settle smp 0; rw [w_set] at this; exact this
theorem k_set2 : Contract Try.prog 20 [acV smp2, .int 0] (tupI [700, 0]) [] := by have := c_bill_Settle smp2 0; rw [w_set2] at this; exact this
set_option maxRecDepth 20000 in
set_option maxHeartbeats 16000000 in
/-- meterworks/meterworkslaw13.sample -/
theorem c_law_sample : Contract Try.prog 25 [] smpV smpO := by
  refine con_of follows_mixed Try.func25 rfl (by simp only [List.length_cons, List.length_nil, Try.ntmps25]; omega) (by kernel_rfl) rfl ?_
  refine Exec.reg ?_
  refine Run.o1 (by simp only [go_sem, smp] <;> rfl) ?_
  refine Run.nil ?_
  refine Exec.reg ?_
  iterate 12 (refine Run.o1 (by simp only [go_sem, smp] <;> rfl) ?_)
  refine Run.nil ?_
  exact Ends.fin [3, 4, 8, 10] (rs := [.cell 0 27]) rfl (by simp only [go_sem, smp] <;> rfl) (by simp only [go_sem, smp] <;> first | rfl | exact eqz)

set_option maxRecDepth 20000 in
set_option maxHeartbeats 64000000 in
/-- meterworks/meterworkslaw13.awake -/
theorem c_law_awake : Contract Try.prog 11 [] (.bool true) [] := by
  have hi0 : Int.toNat 0 = 0 := rfl
  refine con_of follows_mixed Try.func11 rfl (by simp only [List.length_cons, List.length_nil, Try.ntmps11]; omega) (by kernel_rfl) rfl ?_
  refine Exec.reg ?_
  refine Run.o1 (by simp only [go_sem, smp, smp2, hi0] <;> rfl) ?_
  refine Run.nil ?_
  refine Exec.reg ?_
  refine Run.cal (c_law_sample) (by simp only [go_sem]) (by simp only [go_sem, smp, smp2, hi0] <;> rfl) (by exact trivial) (fun _ _ _ => rfl) (by simp only [go_sem, smp, smp2, hi0] <;> rfl) ?_
  iterate 2 (refine Run.o1 (by simp only [go_sem, smp, smp2, hi0] <;> rfl) ?_)
  refine Run.nil ?_
  refine Exec.reg ?_
  refine Run.o1 (by simp only [go_sem, smp, smp2, hi0] <;> rfl) ?_
  refine Run.calT (by simp only [go_sem] <;> rfl) (k_used) (by simp only [go_sem]) (by simp only [go_sem] <;> rfl) (by rfl) (by rfl) (by intro q x h; cases h) (by simp only [go_sem] <;> rfl) ?_
  iterate 5 (refine Run.o1 (by simp only [go_sem, smp, smp2, hi0] <;> rfl) ?_)
  refine Run.nil ?_
  refine Exec.reg ?_
  refine Run.o1 (by simp only [go_sem, smp, smp2, hi0] <;> rfl) ?_
  refine Run.calT (by simp only [go_sem] <;> rfl) (k_cost) (by simp only [go_sem]) (by simp only [go_sem] <;> rfl) (by rfl) (by rfl) (by intro q x h; cases h) (by simp only [go_sem] <;> rfl) ?_
  iterate 5 (refine Run.o1 (by simp only [go_sem, smp, smp2, hi0] <;> rfl) ?_)
  refine Run.nil ?_
  refine Exec.reg ?_
  refine Run.o1 (by simp only [go_sem, smp, smp2, hi0] <;> rfl) ?_
  refine Run.calT (by simp only [go_sem] <;> rfl) (k_bills) (by simp only [go_sem]) (by simp only [go_sem] <;> rfl) (by rfl) (by rfl) (by intro q x h; simp only [look_cons, look_nil] at h; split at h; (rename_i hq; have hq := hq; subst hq; simp only [go_sem] <;> rfl); cases h) (by simp only [go_sem] <;> rfl) ?_
  iterate 5 (refine Run.o1 (by simp only [go_sem, smp, smp2, hi0] <;> rfl) ?_)
  refine Run.nil ?_
  refine Exec.reg ?_
  refine Run.o1 (by simp only [go_sem, smp, smp2, hi0] <;> rfl) ?_
  refine Run.calT (by simp only [go_sem] <;> rfl) (k_owed) (by simp only [go_sem]) (by simp only [go_sem] <;> rfl) (by rfl) (by rfl) (by intro q x h; cases h) (by simp only [go_sem] <;> rfl) ?_
  iterate 5 (refine Run.o1 (by simp only [go_sem, smp, smp2, hi0] <;> rfl) ?_)
  refine Run.nil ?_
  refine Exec.reg ?_
  refine Run.o1 (by simp only [go_sem, smp, smp2, hi0] <;> rfl) ?_
  refine Run.calT (by simp only [go_sem] <;> rfl) (k_set) (by simp only [go_sem]) (by simp only [go_sem] <;> rfl) (by rfl) (by rfl) (by intro q x h; cases h) (by simp only [go_sem] <;> rfl) ?_
  iterate 5 (refine Run.o1 (by simp only [go_sem, smp, smp2, hi0] <;> rfl) ?_)
  refine Run.nil ?_
  refine Exec.reg ?_
  iterate 2 (refine Run.o1 (by simp only [go_sem, smp, smp2, hi0] <;> rfl) ?_)
  refine Run.o1 (by simp only [go_sem, smp, smp2, hi0]; (try simp (disch := omega) only [if_pos]); (try simp only [go_sem, smp, smp2, hi0])<;> rfl) ?_
  iterate 2 (refine Run.o1 (by simp only [go_sem, smp, smp2, hi0] <;> rfl) ?_)
  refine Run.nil ?_
  refine Exec.reg ?_
  refine Run.o1 (by simp only [go_sem, smp, smp2, hi0] <;> rfl) ?_
  refine Run.calT (by simp only [go_sem] <;> rfl) (k_set2) (by simp only [go_sem]) (by simp only [go_sem] <;> rfl) (by rfl) (by rfl) (by intro q x h; cases h) (by simp only [go_sem] <;> rfl) ?_
  iterate 5 (refine Run.o1 (by simp only [go_sem, smp, smp2, hi0] <;> rfl) ?_)
  refine Run.nil ?_
  refine Exec.reg ?_
  refine Run.frz 29000 (by simp only [go_sem] <;> rfl) ?_
  iterate 3 (refine Run.o1 (by simp only [go_sem, smp, smp2, hi0] <;> rfl) ?_)
  iterate 2 (refine Run.y1 (by simp only [go_sem, smp, smp2, hi0] <;> rfl) ?_)
  iterate 2 (refine Run.o1 (by simp only [go_sem, smp, smp2, hi0] <;> rfl) ?_)
  iterate 2 (refine Run.y1 (by simp only [go_sem, smp, smp2, hi0] <;> rfl) ?_)
  iterate 2 (refine Run.o1 (by simp only [go_sem, smp, smp2, hi0] <;> rfl) ?_)
  iterate 2 (refine Run.y1 (by simp only [go_sem, smp, smp2, hi0] <;> rfl) ?_)
  iterate 2 (refine Run.o1 (by simp only [go_sem, smp, smp2, hi0] <;> rfl) ?_)
  iterate 5 (refine Run.y1 (by simp only [go_sem, smp, smp2, hi0] <;> rfl) ?_)
  refine Run.frz 68 (by simp only [go_sem] <;> rfl) ?_
  refine Run.calw (by simp only [go_sem] <;> rfl) (c_ref_Same [bl0, bl1, bl2] [bl0, bl1, bl2] (by decide) (by decide)) (by simp only [go_sem]) (by simp only [go_sem, smp, smp2, hi0] <;> rfl) (by simp only [go_sem, smp, smp2, hi0] <;> rfl) (by exact ⟨by first | exact WkR.pure rfl | exact WkR.nil _ | exact WkR.int (by first | omega | (simp; done) | (simp; omega)), by first | exact WkR.pure rfl | exact WkR.nil _ | exact WkR.int (by first | omega | (simp; done) | (simp; omega)), trivial⟩) (fr0) (by simp only [go_sem, smp, smp2, hi0] <;> rfl) ?_
  iterate 2 (refine Run.o1 (by simp only [go_sem, smp, smp2, hi0] <;> rfl) ?_)
  iterate 2 (refine Run.y1 (by simp only [go_sem, smp, smp2, hi0] <;> rfl) ?_)
  iterate 2 (refine Run.o1 (by simp only [go_sem, smp, smp2, hi0] <;> rfl) ?_)
  iterate 2 (refine Run.y1 (by simp only [go_sem, smp, smp2, hi0] <;> rfl) ?_)
  iterate 2 (refine Run.o1 (by simp only [go_sem, smp, smp2, hi0] <;> rfl) ?_)
  iterate 2 (refine Run.y1 (by simp only [go_sem, smp, smp2, hi0] <;> rfl) ?_)
  iterate 2 (refine Run.o1 (by simp only [go_sem, smp, smp2, hi0] <;> rfl) ?_)
  iterate 2 (refine Run.y1 (by simp only [go_sem, smp, smp2, hi0] <;> rfl) ?_)
  iterate 2 (refine Run.o1 (by simp only [go_sem, smp, smp2, hi0] <;> rfl) ?_)
  iterate 2 (refine Run.y1 (by simp only [go_sem, smp, smp2, hi0] <;> rfl) ?_)
  iterate 2 (refine Run.o1 (by simp only [go_sem, smp, smp2, hi0] <;> rfl) ?_)
  iterate 2 (refine Run.y1 (by simp only [go_sem, smp, smp2, hi0] <;> rfl) ?_)
  iterate 2 (refine Run.o1 (by simp only [go_sem, smp, smp2, hi0] <;> rfl) ?_)
  iterate 2 (refine Run.y1 (by simp only [go_sem, smp, smp2, hi0] <;> rfl) ?_)
  iterate 2 (refine Run.o1 (by simp only [go_sem, smp, smp2, hi0] <;> rfl) ?_)
  refine Run.nil ?_
  exact Ends.fin [] (rs := [.tmp 0]) rfl (by simp only [go_sem, smp, smp2, hi0] <;> rfl) (by simp only [go_sem, smp, smp2, hi0] <;> first | rfl | exact eqz)

theorem blls_ok (a : Ac) : (billsR a).1.length ≤ 1000 := by
  unfold billsR
  split
  · rename_i h
    have he0 : startE a = 0 := by
      unfold billsE at h
      split at h
      · rename_i h2; exact absurd h h2
      · rename_i h2; simpa using h2
    have := (start_val he0).nbs
    simp only [blls_len]
    omega
  · simp
end Go.Mw

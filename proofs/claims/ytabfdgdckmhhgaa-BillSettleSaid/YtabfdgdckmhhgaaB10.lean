/- Contracts of the functions that the bill reaches: what is in order, by the program. -/
import Derived.Test.YtabfdgdckmhhgaaB9
import Derived.Test.YtabfdgdckmhhgaaB4
import Derived.Test.YtabfdgdckmhhgaaB3
set_option linter.unusedSimpArgs false
set_option linter.unusedVariables false
set_option linter.unusedSectionVars false
set_option linter.deprecated false
namespace Go.Mw
open Go.Proofs
open Go.Bi
attribute [local go_sem] decide_true beq_self_eq_true bne_self_eq_false
set_option maxRecDepth 20000 in
/-- meterworks/bill.points -/
theorem c_points (a : Ac) (known : Int) : Contract Try.prog 46 [acV a, .int known] (.leaf (.d (ptsFn a known))) [] := by
  refine con_of follows_mixed Try.func46 rfl (by simp only [List.length_cons, List.length_nil, Try.ntmps46]; omega) (by kernel_rfl) rfl ?_
  refine Exec.reg ?_
  iterate 3 (refine Run.o ?_)
  refine Run.nil ?_
  refine Exec.reg ?_
  refine Run.frz 2 (by simp only [go_sem] <;> rfl) ?_
  refine Run.frz 3 (by simp only [go_sem] <;> rfl) ?_
  iterate 2 (refine Run.o ?_)
  refine Run.frz 5 (by simp only [go_sem] <;> rfl) ?_
  refine Run.nil ?_
  exact Ends.fin [] (rs := [.tmp 4]) rfl (by simp only [go_sem] <;> rfl) (by simp only [go_sem] <;> first | rfl | exact eqz)

set_option maxRecDepth 20000 in
set_option maxHeartbeats 4000000 in
/-- slices.AppendSeq[[]meterworks/api.Note,meterworks/api.Note] -/
theorem c_AppendSeq (a : Ac) (v : Val a) (known : Int) : Contract Try.prog 64 [.raw (.slice none 0 0), .leaf (.d (ptsFn a known))] (.leaf (.d (nsD (ntsOf a known)))) [] := by
  have hnl := nts_len v known
  have hz0 : (ntsOf a known).take 0 = [] := rfl
  refine con_of follows_mixed Try.func64 rfl (by simp only [List.length_cons, List.length_nil, Try.ntmps64]; omega) (by kernel_rfl) rfl ?_
  refine Exec.reg ?_
  iterate 2 (refine Run.o ?_)
  refine Run.nil ?_
  refine Exec.assocS ?_
  refine Exec.reg ?_
  refine Run.nilC 2 0 1000 42 3 (by simp only [go_sem] <;> rfl) (by simp only [go_sem] <;> rfl) (by simp only [go_sem] <;> rfl) (by omega) (by omega) (by simp only [go_sem] <;> rfl) ?_
  refine Run.o ?_
  refine Run.nil ?_
  refine Exec.blk ?_
  refine Exec.rangeL 60 [.pt (encAc a), .pt [.i known]] 900 (ntsV a known) [2, 6] [2, 1000] (fun k => [.obj 2 (.cells [.own 1000 0 k k]), .obj 1000 (.arr 42 3 (((ntsOf a known).take k).map encNt))]) (fun _ => True) (fun k => by simp only [go_sem] <;> rfl) (by simp only [go_sem, Int.natCast_zero, hz0] <;> rfl) (fun _ => by rfl) (fun _ => by rfl) rfl (by simp only [go_sem] <;> rfl) (by simp only [go_sem]) (c_points_1 a v known) (by decide +kernel) ?_ (fun k v hv hX => ?_) (fun hX => ?_)
  · trivial
  · skip
    obtain ⟨n, hn, rfl⟩ := ntsV_get hv
    have hkl := (List.getElem?_eq_some_iff.1 hn).1
    have htl : ((ntsOf a known).take k).length = k := by rw [List.length_take]; omega
    have hts : (ntsOf a known).take (k + 1) = (ntsOf a known).take k ++ [n] := by rw [List.take_succ, hn]; rfl
    refine ⟨rfl, ?_⟩
    refine Exec.reg1 ?_
    iterate 2 (refine Run.o1 (by simp only [go_sem, htl] <;> rfl) ?_)
    refine Run.nil ?_
    refine ⟨rfl, ?_⟩
    refine Exec.blk1 ?_
    refine Exec.reg1 ?_
    iterate 3 (refine Run.o1 (by simp only [go_sem, htl] <;> rfl) ?_)
    refine Run.o1 (by simp only [go_sem, htl]; (try simp (disch := omega) only [if_pos]); (try simp only [go_sem, htl]) <;> first | (refine ite_run ⟨by (try simp only [List.length_append, List.length_drop, List.length_take, List.length_map, List.length_cons, List.length_nil, List.length_replicate, List.length_set, List.length_range, Nat.zero_add]); omega, by (try simp only [List.length_append, List.length_drop, List.length_take, List.length_map, List.length_cons, List.length_nil, List.length_replicate, List.length_set, List.length_range, Nat.zero_add]); omega, by repeat (first | exact al_nil | assumption | refine al_app ?_ ?_ | refine al_drop ?_ | refine al_take ?_ | exact al_map (fun _ => rfl) | exact al_rep rfl | refine al_cons rfl ?_)⟩ ?_; simp only [go_sem, htl] <;> rfl) | (refine ite_run ⟨by (try simp only [List.length_append, List.length_drop, List.length_take, List.length_map, List.length_cons, List.length_nil, List.length_replicate, List.length_set, List.length_range, Nat.zero_add]); omega, by repeat (first | exact al_nil | assumption | refine al_app ?_ ?_ | refine al_drop ?_ | refine al_take ?_ | exact al_map (fun _ => rfl) | exact al_rep rfl | refine al_cons rfl ?_)⟩ ?_; simp only [go_sem, htl] <;> rfl) | rfl) ?_
    refine Run.o1 (by simp only [go_sem, htl] <;> rfl) ?_
    refine Run.nil ?_
    refine Blk1K.nrm ?_
    refine RngK.nrm ?_ ?_
    · exact Ghost.kl [2, 1000] (by simp only [go_sem, htl] <;> first | ((repeat' (first | with_reducible_and_instances rfl | refine st_eq ?_ ?_ ?_ | refine ret_eq ?_ | refine tup_eq ?_ | refine tm_eq ?_ ?_ | refine arr_eq ?_ | refine cells_eq ?_ | refine val_eq ?_ | refine ls_eq ?_ ?_ | refine own_eq ?_ ?_ | refine sl_eq ?_ | refine b_eq ?_ | (refine i_eq ?_; omega))); (all_goals (first | omega | (rw [hts]; simp [encNt]; done)))) | rfl)
    · trivial
  · skip
    rw [ntsV_len] at *
    have htk : (ntsOf a known).take (ntsOf a known).length = ntsOf a known := List.take_length
    have hta : List.take (ntsOf a known).length (List.map encNt (ntsOf a known)) = List.map encNt (ntsOf a known) := List.take_of_length_le (by simp)
    refine BlkK.nrm ?_
    refine Exec.reg ?_
    refine Run.frz 1000 (by simp only [go_sem, htk, hta] <;> rfl) ?_
    iterate 2 (refine Run.o1 (by simp only [go_sem, ntsV_len] <;> rfl) ?_)
    refine Run.nil ?_
    exact Ends.fin [] (rs := [.tmp 4]) rfl (by simp only [go_sem, ntsV_len] <;> rfl) (by simp only [go_sem, ntsV_len] <;> first | rfl | exact eqz)

set_option maxRecDepth 20000 in
/-- slices.Collect[meterworks/api.Note] -/
theorem c_Collect (a : Ac) (v : Val a) (known : Int) : Contract Try.prog 47 [.leaf (.d (ptsFn a known))] (.leaf (.d (nsD (ntsOf a known)))) [] := by
  refine con_of follows_mixed Try.func47 rfl (by simp only [List.length_cons, List.length_nil, Try.ntmps47]; omega) (by kernel_rfl) rfl ?_
  refine Exec.reg ?_
  refine Run.o ?_
  refine Run.nil ?_
  refine Exec.reg ?_
  refine Run.o ?_
  refine Run.c1 (c_AppendSeq a v known) (by simp only [go_sem] <;> rfl) (by simp only [go_sem] <;> rfl) ?_
  refine Run.o ?_
  refine Run.nil ?_
  exact Ends.fin [] (rs := [.tmp 2]) rfl (by simp only [go_sem] <;> rfl) (by simp only [go_sem] <;> first | rfl | exact eqz)

set_option maxRecDepth 20000 in
set_option maxHeartbeats 8000000 in
/-- meterworks/bill.isOrdered -/
theorem c_isOrdered (a : Ac) (v : Val a) (l : List Int) (hl : l.length ≤ 1000) : Contract Try.prog 33 [acV a, .leaf (.d (intsD l))] (.bool (ordsB a l)) [] := by
  refine con_of follows_mixed Try.func33 rfl (by simp only [List.length_cons, List.length_nil, Try.ntmps33]; omega) (by kernel_rfl) rfl ?_
  refine Exec.reg ?_
  iterate 2 (refine Run.o ?_)
  refine Run.nil ?_
  refine Exec.scp ?_
  refine Exec.reg ?_
  refine Run.o ?_
  refine Run.nil ?_
  refine Exec.lblS ?_
  refine Exec.assocS ?_
  refine Exec.reg ?_
  iterate 3 (refine Run.o ?_)
  refine Run.nil ?_
  refine Exec.blk ?_
  refine Exec.forA [2, 4, 9, 10, 11] [2, 4] (l.length) (fun k => [.slot 11 (.int k), .obj 4 (.cells [.d (.raw (.bool true))])]) (fun k => (l.take k).all (ordB a) = true) (fun k => by simp only [go_sem] <;> rfl) (by simp only [go_sem] <;> rfl) ?_ (fun k hk hX => ?_)
  · rfl
  · skip
    refine Exec.reg ?_
    refine Run.o ?_
    refine Run.nil ?_
    refine Exec.cndS (by simp only [go_sem] <;> rfl) (fun hb12 => ?_) (fun hb12 => ?_)
    · skip
      have hlt := lt_of_dec hb12
      have hk1 := bs_get hlt
      have hz0 : figK (ntsOf a (l.getD k 0)) 0 = 0 := rfl
      refine Exec.skipS ?_
      refine Exec.blk ?_
      refine Exec.reg ?_
      refine Run.o1 (by simp only [go_sem, hk1]; (try simp (disch := omega) only [if_pos]); (try simp only [go_sem, hk1])<;> rfl) ?_
      iterate 2 (refine Run.o1 (by simp only [go_sem, hk1] <;> rfl) ?_)
      refine Run.nil ?_
      refine Exec.reg ?_
      iterate 2 (refine Run.o1 (by simp only [go_sem, hk1] <;> rfl) ?_)
      refine Run.nil ?_
      refine Exec.reg ?_
      iterate 2 (refine Run.o1 (by simp only [go_sem, hk1] <;> rfl) ?_)
      refine Run.c1 (c_points a (l.getD k 0)) (by simp only [go_sem, hk1] <;> rfl) (by simp only [go_sem, hk1] <;> rfl) ?_
      refine Run.nil ?_
      refine Exec.blk1 ?_
      refine Exec.rangeL 60 [.pt (encAc a), .pt [.i (l.getD k 0)]] 900 (ntsV a (l.getD k 0)) [2, 4, 7, 9, 10, 11, 17] [2, 4, 7] (fun j => [.obj 7 (.cells [.d (.i (figK (ntsOf a (l.getD k 0)) j))]), .obj 4 (.cells [.d (.raw (.bool true))])]) (fun j => ∀ i, i < j → figK (ntsOf a (l.getD k 0)) i ≤ figK (ntsOf a (l.getD k 0)) (i + 1)) (fun j => by simp only [go_sem] <;> rfl) (by simp only [go_sem, hk1, hz0] <;> rfl) (fun _ => by rfl) (fun _ => by rfl) rfl (by simp only [go_sem] <;> rfl) (by simp only [go_sem]) (c_points_1 a v (l.getD k 0)) (by decide +kernel) ?_ (fun j v hv Xj => ?_) (fun Xj => ?_)
      · exact fun i hi => absurd hi (by omega)
      · skip
        obtain ⟨n, hn, rfl⟩ := ntsV_get hv
        have hkl := (List.getElem?_eq_some_iff.1 hn).1
        have hfg : figK (ntsOf a (l.getD k 0)) (j + 1) = n.fig := by show ((ntsOf a (l.getD k 0)).getD j default).fig = _; rw [getD_of hn]
        refine ⟨rfl, ?_⟩
        refine Exec.reg1 ?_
        iterate 2 (refine Run.o1 (by simp only [go_sem, hk1, hfg] <;> rfl) ?_)
        refine Run.nil ?_
        refine ⟨rfl, ?_⟩
        refine Exec.blk1 ?_
        refine Exec.assocS ?_
        refine Exec.reg ?_
        iterate 4 (refine Run.o1 (by simp only [go_sem, hk1, hfg] <;> rfl) ?_)
        refine Run.nil ?_
        refine Exec.cndS (by simp only [go_sem, hk1, hfg] <;> rfl) (fun hb22 => ?_) (fun hb22 => ?_)
        · skip
          have hbad : ordB a (l.getD k 0) = false := by
            rw [← Bool.not_eq_true, ord_fig v]
            intro h
            have h1 := h j hkl
            have h2 := of_decide_eq_true hb22
            rw [hfg] at h1
            omega
          have hr : ordsB a l = false := all_stop hk1 hbad
          refine Exec.assocS ?_
          refine Exec.reg ?_
          refine Run.o1 (by simp only [go_sem, hk1, hfg, hr] <;> rfl) ?_
          refine Run.nil ?_
          refine Exec.exitS ?_
          refine Blk1K.mis (by decide) ?_
          refine RngK.ext (by simp only [go_sem] <;> rfl) ?_
          refine Blk1K.mis (by decide) ?_
          refine BlkK.mis (by decide) ?_
          refine ForK.ext ?_
          refine BlkK.hit ?_
          refine Exec.reg ?_
          iterate 2 (refine Run.o1 (by simp only [go_sem, hk1, hfg, hr] <;> rfl) ?_)
          refine Run.nil ?_
          exact Ends.fin [] (rs := [.cell 4 4]) rfl (by simp only [go_sem, hk1, hfg, hr] <;> rfl) (by simp only [go_sem, hk1, hfg, hr] <;> first | rfl | exact eqz)
        · skip
          refine Exec.skipS ?_
          refine Exec.reg1 ?_
          iterate 3 (refine Run.o1 (by simp only [go_sem, hk1, hfg] <;> rfl) ?_)
          refine Run.nil ?_
          refine Blk1K.nrm ?_
          refine RngK.nrm ?_ ?_
          · exact Ghost.kl [2, 4, 7] (by simp only [go_sem, hk1, hfg] <;> first | exact eqz | rfl)
          · exact fun i hi => if e : i = j then (by subst e; have := of_decide_eq_false hb22; rw [hfg]; omega) else Xj i (by omega)
      · skip
        rw [ntsV_len] at *
        have hyes : ordB a (l.getD k 0) = true := (ord_fig v _).2 Xj
        refine Blk1K.nrm ?_
        refine BlkK.nrm ?_
        refine Exec.reg1 ?_
        refine Run.o1 (by simp only [go_sem, ntsV_len]; (try simp (disch := omega) only [IntWalk.i64_in, IntWalk.u64_in, if_neg, if_pos])<;> rfl) ?_
        refine Run.o1 (by simp only [go_sem, ntsV_len] <;> rfl) ?_
        refine Run.nil ?_
        refine ForK.nxt ?_ ?_ ?_
        · omega
        · exact Ghost.kp [2, 4, 9, 10, 11] [2, 4] (by simp only [go_sem, ntsV_len] <;> first | exact eqz | rfl)
        · exact all_step hX hk1 hyes
    · skip
      have hke : k = l.length := by have := ge_of_dec hb12; omega
      have hr : ordsB a l = true := all_done hX (by omega)
      refine Exec.exitS ?_
      refine ForK.ext ?_
      refine BlkK.hit ?_
      refine Exec.reg ?_
      iterate 2 (refine Run.o1 (by simp only [go_sem, hr] <;> rfl) ?_)
      refine Run.nil ?_
      exact Ends.fin [] (rs := [.cell 4 4]) rfl (by simp only [go_sem, hr] <;> rfl) (by simp only [go_sem, hr] <;> first | rfl | exact eqz)

end Go.Mw
namespace Go.Mw
open Go.Proofs
open Go.Bi
attribute [local go_sem] decide_true beq_self_eq_true bne_self_eq_false
/-- A figure's entry in the map of what was seen. -/
@[go_sem] def encS (n : Nt) : Value × Bool × List AL := (.agg [.int .i64 n.day, .int .i64 n.came].toArray, false, [.d (.i n.fig)])
theorem keyS (o n : Nt) : keyEq 3 (.agg [.int .i64 n.day, .int .i64 n.came].toArray) (.agg [.int .i64 o.day, .int .i64 o.came].toArray) = some (keyB o n) := by
  have e1 : (n.day == o.day) = decide (o.day = n.day) := by rw [eqd]; exact decide_eq_decide.2 ⟨Eq.symm, Eq.symm⟩
  have e2 : (n.came == o.came) = decide (o.came = n.came) := by rw [eqd]; exact decide_eq_decide.2 ⟨Eq.symm, Eq.symm⟩
  simp [keyEq, eqInts, keyB, e1, e2]
theorem mS_get (n : Nt) : ∀ m : List Nt, mapGet 3 (.agg [.int .i64 n.day, .int .i64 n.came].toArray) (m.map encS) = some ((findS n m).map fun o => (false, [.d (.i o.fig)]))
  | [] => rfl
  | b :: m => by
    have ih := mS_get n m
    rw [List.map_cons, mapGet]
    show (match keyEq 3 _ (.agg [.int .i64 b.day, .int .i64 b.came].toArray) with | some true => _ | some false => _ | none => _) = _
    rw [keyS, findS_cons]
    cases keyB b n
    · exact ih
    · rfl
theorem mS_set (n : Nt) : ∀ m : List Nt, mapSet 3 (.agg [.int .i64 n.day, .int .i64 n.came].toArray) (false, [.d (.i n.fig)]) (m.map encS) = some ((setS n m).map encS)
  | [] => rfl
  | b :: m => by
    have ih := mS_set n m
    rw [List.map_cons, mapSet]
    show (match keyEq 3 _ (.agg [.int .i64 b.day, .int .i64 b.came].toArray) with | some true => _ | some false => _ | none => _) = _
    rw [keyS, setS]
    cases keyB b n
    · simp only [ih]; rfl
    · rfl
@[go_sem ↓] theorem keep_mS (os : List Nat) (bs : List Nt) : (AO.map (bs.map encS)).keep os = .map (bs.map encS) := by
  show AO.map _ = _
  rw [List.map_map]
  rfl
@[go_sem ↓] theorem ren_mS (r : Nat → Nat) (bs : List Nt) : (AO.map (bs.map encS)).ren r = .map (bs.map encS) := by
  show AO.map _ = _
  rw [List.map_map]
  rfl
@[go_sem ↓] theorem kp_mS (q : Nat → Bool) (bs : List Nt) : (AO.map (bs.map encS)).kp q = .map (bs.map encS) := by
  show AO.map _ = _
  rw [List.map_map]
  rfl
theorem tw_none {l : List Nt} {k : Nat} (hk : k ≤ l.length) (h : twT l k = false) : ∀ i j, i < k → j < i → twin (l.getD i default) (l.getD j default) = false := fun i j hi hj => by
  rw [← Bool.not_eq_true]
  intro hc
  rw [(twT_iff hk).2 ⟨i, j, hi, hj, hc⟩] at h
  cases h
set_option maxRecDepth 20000 in
set_option maxHeartbeats 8000000 in
/-- meterworks/bill.check -/
theorem c_check (a : Ac) : Contract Try.prog 32 [acV a] (.int (startE a)) [] := by
  have hz0 : seenT a.ns 0 = [] := rfl
  refine con_of follows_mixed Try.func32 rfl (by simp only [List.length_cons, List.length_nil, Try.ntmps32]; omega) (by kernel_rfl) rfl ?_
  refine Exec.reg ?_
  iterate 2 (refine Run.o ?_)
  refine Run.nil ?_
  refine Exec.assocS ?_
  refine Exec.reg ?_
  refine Run.o ?_
  refine Run.c1 (c_bill_isAccount a) (by simp only [go_sem] <;> rfl) (by simp only [go_sem] <;> rfl) ?_
  refine Run.o ?_
  refine Run.nil ?_
  refine Exec.cndS (by simp only [go_sem] <;> rfl) (fun hb10 => ?_) (fun hb10 => ?_)
  · skip
    have hA : acctB a = false := by simpa using hb10
    have hr : startE a = 1 := if_pos hA
    refine Exec.assocS ?_
    refine Exec.reg ?_
    refine Run.o1 (by simp only [go_sem, hr] <;> rfl) ?_
    refine Run.nil ?_
    refine Exec.retS ?_
    exact Ends.fin [] (rs := [.tmp 2]) rfl (by simp only [go_sem, hr] <;> rfl) (by simp only [go_sem, hr] <;> first | rfl | exact eqz)
  · skip
    have hA : acctB a = true := by simpa using hb10
    have v := acct_val hA
    have hns := v.nns
    refine Exec.skipS ?_
    refine Exec.reg ?_
    iterate 2 (refine Run.o ?_)
    refine Run.nil ?_
    refine Exec.assocS ?_
    refine Exec.reg ?_
    iterate 4 (refine Run.o ?_)
    refine Run.nil ?_
    refine Exec.blk ?_
    refine Exec.forA [3, 13, 14, 15] [11] (a.ns.length) (fun k => [.slot 15 (.int k), .obj 11 (.map ((seenT a.ns k).map encS))]) (fun k => twT a.ns k = false) (fun k => by simp only [go_sem] <;> rfl) (by simp only [go_sem, Int.natCast_zero, hz0] <;> rfl) ?_ (fun k hk hX => ?_)
    · rfl
    · skip
      refine Exec.reg ?_
      refine Run.o ?_
      refine Run.nil ?_
      refine Exec.cndS (by simp only [go_sem] <;> rfl) (fun hb16 => ?_) (fun hb16 => ?_)
      · skip
        have hlt := lt_of_dec hb16
        have hk1 := nt_get hlt
        have hgt := mS_get (a.ns.getD k default) (seenT a.ns k)
        have hss := mS_set (a.ns.getD k default) (seenT a.ns k)
        have hst := seen_twin hlt (tw_none (by omega) hX)
        have hsu : setS (a.ns.getD k default) (seenT a.ns k) = seenT a.ns (k + 1) := rfl
        rw [hsu] at hss
        refine Exec.skipS ?_
        refine Exec.blk ?_
        refine Exec.reg ?_
        refine Run.o1 (by simp only [go_sem, hk1, hgt, hss, Option.map_some, Option.map_none]; (try simp (disch := omega) only [if_pos]); (try simp only [go_sem, hk1, hgt, hss, Option.map_some, Option.map_none])<;> rfl) ?_
        iterate 3 (refine Run.o1 (by simp only [go_sem, hk1, hgt, hss, Option.map_some, Option.map_none] <;> rfl) ?_)
        refine Run.nil ?_
        refine Exec.assocS ?_
        by_cases hF : ∃ o, findS (a.ns.getD k default) (seenT a.ns k) = some o
        · skip
          obtain ⟨o, hF⟩ := hF
          rw [hF] at hst
          refine Exec.reg ?_
          iterate 12 (refine Run.o1 (by simp only [go_sem, hk1, hgt, hss, Option.map_some, Option.map_none, hF] <;> rfl) ?_)
          refine Run.nil ?_
          refine Exec.assocS ?_
          refine Exec.reg ?_
          iterate 2 (refine Run.o1 (by simp only [go_sem, hk1, hgt, hss, Option.map_some, Option.map_none, hF] <;> rfl) ?_)
          iterate 4 (refine Run.y1 (by simp only [go_sem, hk1, hgt, hss, Option.map_some, Option.map_none, hF] <;> rfl) ?_)
          refine Run.o1 (by simp only [go_sem, hk1, hgt, hss, Option.map_some, Option.map_none, hF] <;> rfl) ?_
          refine Run.nil ?_
          refine Exec.cndS (by simp only [go_sem, hk1, hgt, hss, Option.map_some, Option.map_none, hF] <;> rfl) (fun hb35 => ?_) (fun hb35 => ?_)
          · skip
            have hne : decide (o.fig ≠ (a.ns.getD k default).fig) = true := by have h := hb35; simp only [bne_iff_ne, ne_eq] at h; exact decide_eq_true h
            have hyes : (a.ns.take k).any (twin (a.ns.getD k default)) = true := hst.symm.trans hne
            have htw1 : twT a.ns (k + 1) = true := by rw [twT, hk1]; simp only [hyes, Bool.or_true]
            have htw : twT a.ns a.ns.length = true := by
              obtain ⟨i, j, h1, h2, h3⟩ := (twT_iff (by omega)).1 htw1
              exact (twT_iff (Nat.le_refl _)).2 ⟨i, j, by omega, h2, h3⟩
            have hr : startE a = 5 := by unfold startE; rw [if_neg (by rw [hA]; decide), if_pos htw]
            refine Exec.assocS ?_
            refine Exec.reg ?_
            refine Run.o1 (by simp only [go_sem, hk1, hgt, hss, Option.map_some, Option.map_none, hF, hr] <;> rfl) ?_
            refine Run.nil ?_
            refine Exec.retS ?_
            refine BlkK.ret ?_
            refine ForK.ret ?_
            refine BlkK.ret ?_
            exact Ends.fin [] (rs := [.tmp 2]) rfl (by simp only [go_sem, hk1, hgt, hss, Option.map_some, Option.map_none, hF, hr] <;> rfl) (by simp only [go_sem, hk1, hgt, hss, Option.map_some, Option.map_none, hF, hr] <;> first | rfl | exact eqz)
          · skip
            have hne : decide (o.fig ≠ (a.ns.getD k default).fig) = false := by have h := hb35; simp only [bne_eq_false_iff_eq] at h; exact decide_eq_false (fun hc => hc h)
            have hno : (a.ns.take k).any (twin (a.ns.getD k default)) = false := hst.symm.trans hne
            refine Exec.skipS ?_
            refine Exec.reg1 ?_
            iterate 9 (refine Run.o1 (by simp only [go_sem, hk1, hgt, hss, Option.map_some, Option.map_none, hF] <;> rfl) ?_)
            refine Run.nil ?_
            refine BlkK.nrm ?_
            refine Exec.reg1 ?_
            refine Run.o1 (by simp only [go_sem, hk1, hgt, hss, Option.map_some, Option.map_none, hF]; (try simp (disch := omega) only [IntWalk.i64_in, IntWalk.u64_in, if_neg, if_pos])<;> rfl) ?_
            refine Run.o1 (by simp only [go_sem, hk1, hgt, hss, Option.map_some, Option.map_none, hF] <;> rfl) ?_
            refine Run.nil ?_
            refine ForK.nxt ?_ ?_ ?_
            · omega
            · exact Ghost.kp [3, 13, 14, 15] [11] (by simp only [go_sem, hk1, hgt, hss, Option.map_some, Option.map_none, hF] <;> first | exact eqz | rfl)
            · rw [twT, hk1, hX, Bool.false_or]; exact hno
        · skip
          have hF : findS (a.ns.getD k default) (seenT a.ns k) = none := by
            cases h : findS (a.ns.getD k default) (seenT a.ns k) with
            | none => rfl
            | some o => exact absurd ⟨o, h⟩ hF
          rw [hF] at hst
          have hno : (a.ns.take k).any (twin (a.ns.getD k default)) = false := hst.symm
          refine Exec.reg ?_
          iterate 12 (refine Run.o1 (by simp only [go_sem, hk1, hgt, hss, Option.map_some, Option.map_none, hF] <;> rfl) ?_)
          refine Run.nil ?_
          refine Exec.assocS ?_
          refine Exec.reg ?_
          iterate 2 (refine Run.o1 (by simp only [go_sem, hk1, hgt, hss, Option.map_some, Option.map_none, hF] <;> rfl) ?_)
          iterate 4 (refine Run.s ?_)
          refine Run.o1 (by simp only [go_sem, hk1, hgt, hss, Option.map_some, Option.map_none, hF] <;> rfl) ?_
          refine Run.nil ?_
          refine Exec.cndS (by simp only [go_sem, hk1, hgt, hss, Option.map_some, Option.map_none, hF] <;> rfl) (fun hb35 => ?_) (fun hb35 => ?_)
          · exact absurd hb35 (by simp)
          · skip
            refine Exec.skipS ?_
            refine Exec.reg1 ?_
            iterate 9 (refine Run.o1 (by simp only [go_sem, hk1, hgt, hss, Option.map_some, Option.map_none, hF] <;> rfl) ?_)
            refine Run.nil ?_
            refine BlkK.nrm ?_
            refine Exec.reg1 ?_
            refine Run.o1 (by simp only [go_sem, hk1, hgt, hss, Option.map_some, Option.map_none, hF]; (try simp (disch := omega) only [IntWalk.i64_in, IntWalk.u64_in, if_neg, if_pos])<;> rfl) ?_
            refine Run.o1 (by simp only [go_sem, hk1, hgt, hss, Option.map_some, Option.map_none, hF] <;> rfl) ?_
            refine Run.nil ?_
            refine ForK.nxt ?_ ?_ ?_
            · omega
            · exact Ghost.kp [3, 13, 14, 15] [11] (by simp only [go_sem, hk1, hgt, hss, Option.map_some, Option.map_none, hF] <;> first | exact eqz | rfl)
            · rw [twT, hk1, hX, Bool.false_or]; exact hno
      · skip
        have hke : k = a.ns.length := by have := ge_of_dec hb16; omega
        subst hke
        have hr : startE a = 0 := by unfold startE; rw [if_neg (by rw [hA]; decide), if_neg (by rw [hX]; decide)]
        refine Exec.exitS ?_
        refine ForK.ext ?_
        refine BlkK.hit ?_
        refine Exec.reg ?_
        refine Run.o1 (by simp only [go_sem, hr] <;> rfl) ?_
        refine Run.nil ?_
        exact Ends.fin [] (rs := [.tmp 2]) rfl (by simp only [go_sem, hr] <;> rfl) (by simp only [go_sem, hr] <;> first | rfl | exact eqz)

/-- What is known on a day, as the program holds it. -/
@[go_sem] def stD (a : Ac) (l : List Nt) (ts : List Dp) : List D := [.i a.start, .i a.fig, .i a.daily, .i a.stand, tsD a.ts, intsD a.bs, nsD a.ns, dsD a.ds, .fn 48 [.pt [nsD l], .pt (encAc a)], .sl 1 (ts.map fun d => [tstD d])]
theorem telT_snoc_yes {a : Ac} {known but : Int} {k : Nat} (h : tellB a known but k = true) : telT a known but (k + 1) = telT a known but k ++ [a.ds.getD k default] := by rw [telT_succ, if_pos h]
theorem telT_snoc_no {a : Ac} {known but : Int} {k : Nat} (h : tellB a known but k = false) : telT a known but (k + 1) = telT a known but k := by rw [telT_succ, if_neg (by rw [h]; decide)]
set_option maxRecDepth 20000 in
set_option maxHeartbeats 16000000 in
/-- meterworks/bill.stateOf -/
theorem c_stateOf (a : Ac) (v : Val a) (known but : Int) : Contract Try.prog 34 [acV a, .int known, .int but] (.leaf (.d (.pt (stD a (ntsOf a known) (tells a known but))))) [] := by
  have hnd := v.nds
  have hz0 : telT a known but 0 = [] := rfl
  refine con_of follows_mixed Try.func34 rfl (by simp only [List.length_cons, List.length_nil, Try.ntmps34]; omega) (by kernel_rfl) rfl ?_
  refine Exec.reg ?_
  iterate 2 (refine Run.o ?_)
  refine Run.nil ?_
  refine Exec.reg ?_
  iterate 4 (refine Run.o ?_)
  refine Run.nil ?_
  refine Exec.reg ?_
  iterate 2 (refine Run.o ?_)
  refine Run.c1 (c_points a known) (by simp only [go_sem] <;> rfl) (by simp only [go_sem] <;> rfl) ?_
  refine Run.c1 (c_Collect a v known) (by simp only [go_sem] <;> rfl) (by simp only [go_sem] <;> rfl) ?_
  iterate 2 (refine Run.o ?_)
  refine Run.nil ?_
  refine Exec.reg ?_
  refine Run.frz 8 (by simp only [go_sem] <;> rfl) ?_
  refine Run.frz 3 (by simp only [go_sem] <;> rfl) ?_
  iterate 2 (refine Run.o ?_)
  refine Run.frz 19 (by simp only [go_sem] <;> rfl) ?_
  iterate 3 (refine Run.o ?_)
  refine Run.nil ?_
  refine Exec.assocS ?_
  refine Exec.reg ?_
  refine Run.nilC 13 9 1000 74 1 (by simp only [go_sem] <;> rfl) (by simp only [go_sem] <;> rfl) (by simp only [go_sem] <;> rfl) (by omega) (by omega) (by simp only [go_sem] <;> rfl) ?_
  iterate 4 (refine Run.o ?_)
  refine Run.nil ?_
  refine Exec.blk ?_
  refine Exec.forA [1, 2, 7, 23, 24, 25] [13, 1000] (a.ds.length) (fun k => [.slot 25 (.int k), .obj 13 (.cells [.d (.i a.start), .d (.i a.fig), .d (.i a.daily), .d (.i a.stand), .d (tsD a.ts), .d (intsD a.bs), .d (nsD a.ns), .d (dsD a.ds), .d (.fn 48 [.pt [nsD (ntsOf a known)], .pt (encAc a)]), .own 1000 0 (telT a known but k).length (telT a known but k).length]), .obj 1000 (.arr 74 1 ((telT a known but k).map fun d => [tstD d]))]) (fun _ => True) (fun k => by simp only [go_sem] <;> rfl) (by simp only [go_sem, Int.natCast_zero, hz0] <;> rfl) ?_ (fun k hk hX => ?_)
  · trivial
  · skip
    refine Exec.reg ?_
    refine Run.o ?_
    refine Run.nil ?_
    refine Exec.cndS (by simp only [go_sem] <;> rfl) (fun hb26 => ?_) (fun hb26 => ?_)
    · skip
      have hlt := lt_of_dec hb26
      have hk1 := dp_get hlt
      have hdv := mem_val v (List.mem_of_getElem? hk1)
      have htn := telT_len a known but k
      refine Exec.skipS ?_
      refine Exec.blk ?_
      refine Exec.reg ?_
      refine Run.o1 (by simp only [go_sem, hk1] <;> rfl) ?_
      refine Run.o1 (by simp only [go_sem, hk1]; (try simp (disch := omega) only [if_pos]); (try simp only [go_sem, hk1])<;> rfl) ?_
      iterate 4 (refine Run.o1 (by simp only [go_sem, hk1] <;> rfl) ?_)
      refine Run.nil ?_
      refine Exec.reg ?_
      iterate 5 (refine Run.o1 (by simp only [go_sem, hk1] <;> rfl) ?_)
      iterate 3 (refine Run.gop (by simp only [go_sem] <;> rfl) (by simp only [go_sem, hk1] <;> rfl) (by simp only [go_sem] <;> rfl) ?_)
      refine Run.o1 (by simp only [go_sem, hk1] <;> rfl) ?_
      refine Run.nil ?_
      refine Exec.cnd (by simp only [go_sem, hk1] <;> rfl) (fun hb38 => ?_) (fun hb38 => ?_)
      · skip
        have hT : tellB a known but k = true := by
          have h := hb38
          unfold tellB
          simp only [Bool.and_eq_true, decide_eq_true_eq, bne_iff_ne, ne_eq] at h ⊢
          exact h
        have hsn := telT_snoc_yes hT
        refine Exec.opk1 14 ?_
        iterate 6 (refine OpenK.o1 (by simp only [go_sem, hk1] <;> rfl) ?_)
        refine OpenK.cal (c_testOf (a.ds.getD k default) (by omega)) (by simp only [go_sem]) (by simp only [go_sem, hk1] <;> rfl) (by exact ⟨by first | exact WkR.pure rfl | exact WkR.nil _ | exact WkR.int (by first | omega | (simp; done) | (simp; omega)), trivial⟩) (fr0) (by simp only [go_sem, hk1] <;> rfl) (by simp only [go_sem] <;> rfl) (by simp only [go_sem] <;> rfl) ?_
        refine OpenK.o1 (by simp only [go_sem, hk1] <;> rfl) ?_
        refine OpenK.o1 (by simp only [go_sem, hk1]; (try simp (disch := omega) only [if_pos]); (try simp only [go_sem, hk1]) <;> first | (refine ite_run ⟨by (try simp only [List.length_append, List.length_drop, List.length_take, List.length_map, List.length_cons, List.length_nil, List.length_replicate, List.length_set, List.length_range, Nat.zero_add]); omega, by (try simp only [List.length_append, List.length_drop, List.length_take, List.length_map, List.length_cons, List.length_nil, List.length_replicate, List.length_set, List.length_range, Nat.zero_add]); omega, by repeat (first | exact al_nil | assumption | refine al_app ?_ ?_ | refine al_drop ?_ | refine al_take ?_ | exact al_map (fun _ => rfl) | exact al_rep rfl | refine al_cons rfl ?_)⟩ ?_; simp only [go_sem, hk1] <;> rfl) | (refine ite_run ⟨by (try simp only [List.length_append, List.length_drop, List.length_take, List.length_map, List.length_cons, List.length_nil, List.length_replicate, List.length_set, List.length_range, Nat.zero_add]); omega, by repeat (first | exact al_nil | assumption | refine al_app ?_ ?_ | refine al_drop ?_ | refine al_take ?_ | exact al_map (fun _ => rfl) | exact al_rep rfl | refine al_cons rfl ?_)⟩ ?_; simp only [go_sem, hk1] <;> rfl) | rfl) ?_
        iterate 3 (refine OpenK.o1 (by simp only [go_sem, hk1] <;> rfl) ?_)
        refine OpenK.nil (OpenE.fin (by decide +kernel) (by decide +kernel) ?_)
        refine BlkK.nrm ?_
        refine Exec.reg1 ?_
        refine Run.o1 (by simp only [go_sem, hk1]; (try simp (disch := omega) only [IntWalk.i64_in, IntWalk.u64_in, if_neg, if_pos])<;> rfl) ?_
        refine Run.o1 (by simp only [go_sem, hk1] <;> rfl) ?_
        refine Run.nil ?_
        refine ForK.nxt ?_ ?_ ?_
        · omega
        · exact Ghost.kp [1, 2, 7, 23, 24, 25] [13, 1000] (by simp only [go_sem, hk1] <;> first | ((repeat' (first | with_reducible_and_instances rfl | refine st_eq ?_ ?_ ?_ | refine ret_eq ?_ | refine tup_eq ?_ | refine tm_eq ?_ ?_ | refine arr_eq ?_ | refine cells_eq ?_ | refine val_eq ?_ | refine ls_eq ?_ ?_ | refine own_eq ?_ ?_ | refine sl_eq ?_ | refine b_eq ?_ | (refine i_eq ?_; omega))); (all_goals (first | (rw [hsn]; simp; done) | (simp [hsn]; done)))) | rfl)
        · trivial
      · skip
        have hT : tellB a known but k = false := by
          have h := hb38
          rw [← Bool.not_eq_true] at h ⊢
          intro hc
          apply h
          unfold tellB at hc
          simp only [Bool.and_eq_true, decide_eq_true_eq, bne_iff_ne, ne_eq] at hc ⊢
          exact hc
        have hsn := telT_snoc_no hT
        refine BlkK.nrm ?_
        refine Exec.reg1 ?_
        refine Run.o1 (by simp only [go_sem, hk1, hsn]; (try simp (disch := omega) only [IntWalk.i64_in, IntWalk.u64_in, if_neg, if_pos])<;> rfl) ?_
        refine Run.o1 (by simp only [go_sem, hk1, hsn] <;> rfl) ?_
        refine Run.nil ?_
        refine ForK.nxt ?_ ?_ ?_
        · omega
        · exact Ghost.kp [1, 2, 7, 23, 24, 25] [13, 1000] (by simp only [go_sem, hk1, hsn] <;> first | exact eqz | rfl)
        · trivial
    · skip
      have hke : k = a.ds.length := by have := ge_of_dec hb26; omega
      subst hke
      have htl : telT a known but a.ds.length = tells a known but := rfl
      have hta : List.take (tells a known but).length (List.map (fun d => [tstD d]) (tells a known but)) = List.map (fun d => [tstD d]) (tells a known but) := List.take_of_length_le (by simp)
      have hlen : (List.map (fun d => [tstD d]) (telT a known but a.ds.length)).length = (telT a known but a.ds.length).length := List.length_map _
      refine Exec.exitS ?_
      refine ForK.ext ?_
      refine BlkK.hit ?_
      refine Exec.reg ?_
      refine Run.frz 1000 (by simp only [go_sem, hlen, hta, htl] <;> rfl) ?_
      refine Run.frz 13 (by simp only [go_sem] <;> rfl) ?_
      iterate 2 (refine Run.o ?_)
      refine Run.nil ?_
      exact Ends.fin [] (rs := [.tmp 6]) rfl (by simp only [go_sem] <;> rfl) (by simp only [go_sem] <;> first | rfl | exact eqz)

end Go.Mw
namespace Go.Mw
open Go.Proofs
open Go.Bi
attribute [local go_sem] decide_true beq_self_eq_true bne_self_eq_false
theorem usedO_bnd {a : Ac} (v : Val a) {known : Int} (ho : ordB a known = true) {day : Int} (hd : a.start ≤ day ∧ day ≤ 131072) (n : Int) {L : List Dp} (hL : ∀ d ∈ L, d ∈ a.ds) : ∀ k, k ≤ L.length →
    n - 150000000000000 * k ≤ usedO a (pts a known) day n (L.take k) ∧ usedO a (pts a known) day n (L.take k) ≤ n + 150000000000000 * k
  | 0, _ => by simp [usedO]
  | k + 1, hk => by
    have ih := usedO_bnd v ho hd n hL k (by omega)
    have hg : L[k]? = some L[k] := List.getElem?_eq_getElem (by omega)
    have e : L.take (k + 1) = L.take k ++ [L[k]] := by rw [List.take_succ, hg]; rfl
    rw [e, usedO_snoc]
    have := tOff_bnd v ho (hL _ (List.mem_of_getElem? hg)) hd
    omega
theorem feeL_bnd {a : Ac} (v : Val a) (n : Int) {L : List Dp} (hL : ∀ d ∈ L, d ∈ a.ds) : ∀ k, k ≤ L.length → n ≤ feeO n (L.take k) ∧ feeO n (L.take k) ≤ n + 1000000 * k
  | 0, _ => by simp [feeO]
  | k + 1, hk => by
    have ih := feeL_bnd v n hL k (by omega)
    have hg : L[k]? = some L[k] := List.getElem?_eq_getElem (by omega)
    have e : L.take (k + 1) = L.take k ++ [L[k]] := by rw [List.take_succ, hg]; rfl
    rw [e, feeO_snoc]
    have hv := mem_val v (hL _ (List.mem_of_getElem? hg))
    unfold tFee
    split <;> omega
theorem take_snoc {α : Type} {l : List α} {k : Nat} {x : α} (h : l[k]? = some x) : l.take (k + 1) = l.take k ++ [x] := by rw [List.take_succ, h]; rfl
theorem tells_mem {a : Ac} (known but : Int) {d : Dp} (h : d ∈ tells a known but) : d ∈ a.ds := by
  unfold tells telT at h
  obtain ⟨i, hi, rfl⟩ := List.mem_map.1 h
  exact getD_mem (List.mem_range.1 (List.mem_filter.1 hi).1)
abbrev stP (a : Ac) (known but : Int) : AV := .leaf (.d (.pt (stD a (ntsOf a known) (tells a known but))))
theorem up_methO : methOf Try.prog 108 "meterworks/bill.off" = some 100 := by kernel_rfl
theorem re_methO : methOf Try.prog 109 "meterworks/bill.off" = some 102 := by kernel_rfl
theorem up_methF : methOf Try.prog 108 "meterworks/bill.fee" = some 99 := by kernel_rfl
theorem re_methF : methOf Try.prog 109 "meterworks/bill.fee" = some 101 := by kernel_rfl
set_option maxRecDepth 20000 in
set_option maxHeartbeats 16000000 in
/-- (*meterworks/bill.state).used -/
theorem c_state_used (a : Ac) (v : Val a) (known but : Int) (ho : ordB a known = true) (day : Int) (hd : a.start ≤ day ∧ day ≤ 131072) : Contract Try.prog 27 [stP a known but, .int day] (.int (used a known but day)) [] := by
  have hnd := v.nds
  have hst := v.start
  have hfg := v.fig
  obtain ⟨P, hP⟩ : ∃ P, P = pts a known := ⟨_, rfl⟩
  have hsb := shw_bnd v (rise_of v ho) hd
  have hLm := fun d => tells_mem (a := a) known but (d := d)
  have hLl : (tells a known but).length ≤ 4 := by have := telT_len a known but a.ds.length; unfold tells; omega
  obtain ⟨L, hL⟩ : ∃ L, tells a known but = L := ⟨_, rfl⟩
  rw [hL] at hLm hLl
  have hLn : L.length ≤ 1000 := by omega
  have hz0 : usedO a (pts a known) day (shw a (pts a known) day - a.fig) (L.take 0) = shw a (pts a known) day - a.fig := rfl
  refine con_of follows_mixed Try.func27 rfl (by simp only [List.length_cons, List.length_nil, Try.ntmps27]; omega) (by kernel_rfl) rfl ?_
  refine Exec.reg ?_
  refine Run.o1 (by simp only [go_sem, hL] <;> rfl) ?_
  refine Run.nil ?_
  refine Exec.opk 15 ?_
  iterate 5 (refine OpenK.o1 (by simp only [go_sem, hL] <;> rfl) ?_)
  refine OpenK.calw (by simp only [go_sem] <;> rfl) (c_showed a v known ho (ntsOf a known) (nts_pts v known) day hd) (by simp only [go_sem]) (by simp only [go_sem, hL] <;> rfl) (by simp only [go_sem, hL] <;> rfl) (by exact ⟨by first | exact WkR.pure rfl | exact WkR.nil _ | exact WkR.int (by first | omega | (simp; done) | (simp; omega)), by first | exact WkR.pure rfl | exact WkR.nil _ | exact WkR.int (by first | omega | (simp; done) | (simp; omega)), by first | exact WkR.pure rfl | exact WkR.nil _ | exact WkR.int (by first | omega | (simp; done) | (simp; omega)), trivial⟩) (fr0) (by simp only [go_sem, hL] <;> rfl) (by simp only [go_sem] <;> rfl) (by simp only [go_sem] <;> rfl) ?_
  iterate 5 (refine OpenK.o1 (by simp only [go_sem, hL] <;> rfl) ?_)
  refine OpenK.o1 (by simp only [go_sem, hL]; (try simp (disch := omega) only [IntWalk.i64_in, IntWalk.u64_in, if_neg, if_pos])<;> rfl) ?_
  refine OpenK.o1 (by simp only [go_sem, hL] <;> rfl) ?_
  refine OpenK.nil (OpenE.fin (by decide +kernel) (by decide +kernel) ?_)
  refine Exec.assocS ?_
  refine Exec.reg ?_
  iterate 6 (refine Run.o1 (by simp only [go_sem, hL] <;> rfl) ?_)
  refine Run.nil ?_
  refine Exec.blk ?_
  refine Exec.forA [0, 1, 5, 23, 24, 25] [] (L.length) (fun k => [.slot 25 (.int k), .slot 5 (.int (usedO a (pts a known) day (shw a (pts a known) day - a.fig) (L.take k)))]) (fun _ => True) (fun k => by simp only [go_sem] <;> rfl) (by simp only [go_sem, hL, Int.natCast_zero, hz0] <;> rfl) ?_ (fun k hk hX => ?_)
  · trivial
  · skip
    refine Exec.reg ?_
    refine Run.o1 (by simp only [go_sem, hL] <;> rfl) ?_
    refine Run.nil ?_
    refine Exec.cndS (by simp only [go_sem, hL] <;> rfl) (fun hb26 => ?_) (fun hb26 => ?_)
    · skip
      have hlt := lt_of_dec hb26
      obtain ⟨d, hk1⟩ := elem_of hb26
      have hm := hLm d (List.mem_of_getElem? hk1)
      have hub := usedO_bnd v ho hd (shw a (pts a known) day - a.fig) hLm k (by omega)
      have hob := tOff_bnd v ho hm hd
      have hsn := usedO_snoc a (pts a known) day (shw a (pts a known) day - a.fig) (L.take k) d
      rw [← take_snoc hk1] at hsn
      refine Exec.skipS ?_
      refine Exec.blk ?_
      by_cases hU : uph d = true
      · skip
        have hts : tstD d = .ifc 108 true (encDp d) := if_pos hU
        have hto : tOff a (pts a known) day d = offD a (pts a known) day d := if_pos hU
        refine Exec.reg ?_
        refine Run.o1 (by simp only [go_sem, hL, hk1, hts, hto]; (try simp (disch := omega) only [if_pos]); (try simp only [go_sem, hL, hk1, hts, hto])<;> rfl) ?_
        iterate 2 (refine Run.o1 (by simp only [go_sem, hL, hk1, hts, hto] <;> rfl) ?_)
        refine Run.nil ?_
        refine Exec.opk1 15 ?_
        iterate 7 (refine OpenK.o1 (by simp only [go_sem, hL, hk1, hts, hto] <;> rfl) ?_)
        refine OpenK.mkm (by simp only [go_sem] <;> rfl) (by simp only [go_sem] <;> rfl) (by rfl) (by simp only [go_sem] <;> rfl) (by simp only [go_sem] <;> rfl) (by simp only [go_sem] <;> rfl) ?_
        first | refine OpenK.nilm (by simp only [go_sem] <;> rfl) (by simp only [go_sem] <;> rfl) up_methO (by simp only [go_sem] <;> rfl) (by simp only [go_sem] <;> rfl) (by simp only [go_sem] <;> rfl) ?_ | refine OpenK.nilm (by simp only [go_sem] <;> rfl) (by simp only [go_sem] <;> rfl) re_methO (by simp only [go_sem] <;> rfl) (by simp only [go_sem] <;> rfl) (by simp only [go_sem] <;> rfl) ?_
        refine OpenK.o1 (by simp only [go_sem, hL, hk1, hts, hto] <;> rfl) ?_
        refine OpenK.inv (by simp only [go_sem] <;> rfl) (c_upheld_off (g := 48) (ds := [.pt [nsD (ntsOf a known)], .pt (encAc a)]) a v known ho (by simp only [go_sem]) (fun x hx => c_showed a v known ho (ntsOf a known) (nts_pts v known) x hx) d hm day hd) (by simp only [go_sem] <;> rfl) up_methO (by kernel_rfl) (by simp only [go_sem] <;> rfl) (by exact ⟨WkR.pure rfl, WkR.pure rfl, WkR.pure rfl, trivial⟩) (by simp only [go_sem] <;> rfl) (by simp only [go_sem] <;> rfl) (by simp only [go_sem] <;> rfl) ?_
        refine OpenK.o1 (by simp only [go_sem, hL, hk1, hts, hto]; (try simp (disch := omega) only [IntWalk.i64_in, IntWalk.u64_in, if_neg, if_pos])<;> rfl) ?_
        refine OpenK.o1 (by simp only [go_sem, hL, hk1, hts, hto] <;> rfl) ?_
        refine OpenK.nil (OpenE.fin (by decide +kernel) (by decide +kernel) ?_)
        refine BlkK.nrm ?_
        refine Exec.reg1 ?_
        refine Run.o1 (by simp only [go_sem, hL, hk1, hts, hto]; (try simp (disch := omega) only [IntWalk.i64_in, IntWalk.u64_in, if_neg, if_pos])<;> rfl) ?_
        refine Run.o1 (by simp only [go_sem, hL, hk1, hts, hto] <;> rfl) ?_
        refine Run.nil ?_
        refine ForK.nxt ?_ ?_ ?_
        · omega
        · exact Ghost.kp [0, 1, 5, 23, 24, 25] [] (by simp only [go_sem, hL, hk1, hts, hto] <;> first | exact eqz | rfl)
        · trivial
      · skip
        have hts : tstD d = .ifc 109 true (encDp d) := if_neg hU
        have hto : tOff a (pts a known) day d = 0 := if_neg hU
        refine Exec.reg ?_
        refine Run.o1 (by simp only [go_sem, hL, hk1, hts, hto]; (try simp (disch := omega) only [if_pos]); (try simp only [go_sem, hL, hk1, hts, hto])<;> rfl) ?_
        iterate 2 (refine Run.o1 (by simp only [go_sem, hL, hk1, hts, hto] <;> rfl) ?_)
        refine Run.nil ?_
        refine Exec.opk1 15 ?_
        iterate 7 (refine OpenK.o1 (by simp only [go_sem, hL, hk1, hts, hto] <;> rfl) ?_)
        refine OpenK.mkm (by simp only [go_sem] <;> rfl) (by simp only [go_sem] <;> rfl) (by rfl) (by simp only [go_sem] <;> rfl) (by simp only [go_sem] <;> rfl) (by simp only [go_sem] <;> rfl) ?_
        first | refine OpenK.nilm (by simp only [go_sem] <;> rfl) (by simp only [go_sem] <;> rfl) up_methO (by simp only [go_sem] <;> rfl) (by simp only [go_sem] <;> rfl) (by simp only [go_sem] <;> rfl) ?_ | refine OpenK.nilm (by simp only [go_sem] <;> rfl) (by simp only [go_sem] <;> rfl) re_methO (by simp only [go_sem] <;> rfl) (by simp only [go_sem] <;> rfl) (by simp only [go_sem] <;> rfl) ?_
        refine OpenK.o1 (by simp only [go_sem, hL, hk1, hts, hto] <;> rfl) ?_
        refine OpenK.inv (by simp only [go_sem] <;> rfl) (c_refused_off d _ ⟨_, rfl⟩ day) (by simp only [go_sem] <;> rfl) re_methO (by kernel_rfl) (by simp only [go_sem] <;> rfl) (by exact ⟨WkR.pure rfl, WkR.pure rfl, WkR.pure rfl, trivial⟩) (by simp only [go_sem] <;> rfl) (by simp only [go_sem] <;> rfl) (by simp only [go_sem] <;> rfl) ?_
        refine OpenK.o1 (by simp only [go_sem, hL, hk1, hts, hto]; (try simp (disch := omega) only [IntWalk.i64_in, IntWalk.u64_in, if_neg, if_pos])<;> rfl) ?_
        refine OpenK.o1 (by simp only [go_sem, hL, hk1, hts, hto] <;> rfl) ?_
        refine OpenK.nil (OpenE.fin (by decide +kernel) (by decide +kernel) ?_)
        refine BlkK.nrm ?_
        refine Exec.reg1 ?_
        refine Run.o1 (by simp only [go_sem, hL, hk1, hts, hto]; (try simp (disch := omega) only [IntWalk.i64_in, IntWalk.u64_in, if_neg, if_pos])<;> rfl) ?_
        refine Run.o1 (by simp only [go_sem, hL, hk1, hts, hto] <;> rfl) ?_
        refine Run.nil ?_
        refine ForK.nxt ?_ ?_ ?_
        · omega
        · exact Ghost.kp [0, 1, 5, 23, 24, 25] [] (by simp only [go_sem, hL, hk1, hts, hto] <;> first | exact eqz | rfl)
        · trivial
    · skip
      have hke : k = L.length := by have := ge_of_dec hb26; omega
      subst hke
      have hr : used a known but day = usedO a (pts a known) day (shw a (pts a known) day - a.fig) (L.take L.length) := by rw [List.take_length, ← hL]; rfl
      refine Exec.exitS ?_
      refine ForK.ext ?_
      refine BlkK.hit ?_
      refine Exec.reg ?_
      iterate 2 (refine Run.o1 (by simp only [go_sem, hL, hr] <;> rfl) ?_)
      refine Run.nil ?_
      exact Ends.fin [] (rs := [.tmp 4]) rfl (by simp only [go_sem, hL, hr] <;> rfl) (by simp only [go_sem, hL, hr] <;> first | rfl | exact eqz)

set_option maxRecDepth 20000 in
set_option maxHeartbeats 32000000 in
/-- (*meterworks/bill.state).cost -/
theorem c_state_cost (a : Ac) (v : Val a) (known but : Int) (ho : ordB a known = true) (day : Int) (hd : a.start ≤ day ∧ day ≤ 131072) : Contract Try.prog 30 [stP a known but, .int day] (.int (cost a known but day)) [] := by
  have hnd := v.nds
  have hst := v.start
  have hfg := v.fig
  obtain ⟨P, hP⟩ : ∃ P, P = pts a known := ⟨_, rfl⟩
  have hsb := shw_bnd v (rise_of v ho) hd
  have hLm := fun d => tells_mem (a := a) known but (d := d)
  have hLl : (tells a known but).length ≤ 4 := by have := telT_len a known but a.ds.length; unfold tells; omega
  obtain ⟨L, hL⟩ : ∃ L, tells a known but = L := ⟨_, rfl⟩
  rw [hL] at hLm hLl
  have hLn : L.length ≤ 1000 := by omega
  have hnt := v.nts
  have hsd := mul_bnd (x := a.stand) (y := day - a.start) (X := 100000) (Y := 131072) v.stand (by omega)
  have hc0 : costT a known but day 0 = a.stand * (day - a.start) := rfl
  have hz0 : feeO (costT a known but day a.ts.length) (L.take 0) = costT a known but day a.ts.length := rfl
  refine con_of follows_mixed Try.func30 rfl (by simp only [List.length_cons, List.length_nil, Try.ntmps30]; omega) (by kernel_rfl) rfl ?_
  refine Exec.reg ?_
  refine Run.o1 (by simp only [go_sem, gt_iff_lt, ge_iff_le, pick_min, pick_max, hL] <;> rfl) ?_
  refine Run.nil ?_
  refine Exec.opk 16 ?_
  iterate 11 (refine OpenK.o1 (by simp only [go_sem, gt_iff_lt, ge_iff_le, pick_min, pick_max, hL] <;> rfl) ?_)
  iterate 2 (refine OpenK.o1 (by simp only [go_sem, gt_iff_lt, ge_iff_le, pick_min, pick_max, hL]; (try simp (disch := omega) only [IntWalk.i64_in, IntWalk.u64_in, if_neg, if_pos])<;> rfl) ?_)
  refine OpenK.o1 (by simp only [go_sem, gt_iff_lt, ge_iff_le, pick_min, pick_max, hL] <;> rfl) ?_
  refine OpenK.nil (OpenE.fin (by decide +kernel) (by decide +kernel) ?_)
  refine Exec.assocS ?_
  refine Exec.reg ?_
  iterate 7 (refine Run.o1 (by simp only [go_sem, gt_iff_lt, ge_iff_le, pick_min, pick_max, hL] <;> rfl) ?_)
  refine Run.nil ?_
  refine Exec.blk ?_
  refine Exec.forA [0, 1, 5, 29, 30, 31] [] (a.ts.length) (fun k => [.slot 31 (.int k), .slot 5 (.int (costT a known but day k))]) (fun _ => True) (fun k => by simp only [go_sem] <;> rfl) (by simp only [go_sem, gt_iff_lt, ge_iff_le, pick_min, pick_max, hL, Int.natCast_zero, hc0] <;> rfl) ?_ (fun k hk hX => ?_)
  · trivial
  · skip
    refine Exec.reg ?_
    refine Run.o1 (by simp only [go_sem, gt_iff_lt, ge_iff_le, pick_min, pick_max, hL] <;> rfl) ?_
    refine Run.nil ?_
    refine Exec.cndS (by simp only [go_sem, gt_iff_lt, ge_iff_le, pick_min, pick_max, hL] <;> rfl) (fun hb32 => ?_) (fun hb32 => ?_)
    · skip
      have hlt := lt_of_dec hb32
      have htk := tr_get hlt
      have htv := v.trf k _ htk
      have hcb := costT_bnd v (but := but) ho hd k (by omega)
      have hcc := trCost_bnd v (but := but) ho hd hlt
      have hcl := trCost_le v (but := but) ho hd hlt
      have hfr : max a.start (a.ts.getD k default).fr = trFr a k := rfl
      have hFb : a.start ≤ trFr a k ∧ trFr a k ≤ 131072 := by unfold trFr; omega
      refine Exec.skipS ?_
      refine Exec.blk ?_
      refine Exec.reg ?_
      refine Run.o1 (by simp only [go_sem, gt_iff_lt, ge_iff_le, pick_min, pick_max, hL, htk, hfr] <;> rfl) ?_
      refine Run.o1 (by simp only [go_sem, gt_iff_lt, ge_iff_le, pick_min, pick_max, hL, htk, hfr]; (try simp (disch := omega) only [if_pos]); (try simp only [go_sem, gt_iff_lt, ge_iff_le, pick_min, pick_max, hL, htk, hfr])<;> rfl) ?_
      iterate 4 (refine Run.o1 (by simp only [go_sem, gt_iff_lt, ge_iff_le, pick_min, pick_max, hL, htk, hfr] <;> rfl) ?_)
      refine Run.nil ?_
      refine Exec.opk 13 ?_
      iterate 11 (refine OpenK.o1 (by simp only [go_sem, gt_iff_lt, ge_iff_le, pick_min, pick_max, hL, htk, hfr] <;> rfl) ?_)
      refine OpenK.nil (OpenE.fin (by decide +kernel) (by decide +kernel) ?_)
      refine Exec.assocS ?_
      refine Exec.reg ?_
      refine Run.o1 (by simp only [go_sem, gt_iff_lt, ge_iff_le, pick_min, pick_max, hL, htk, hfr] <;> rfl) ?_
      refine Run.o1 (by simp only [go_sem, gt_iff_lt, ge_iff_le, pick_min, pick_max, hL, htk, hfr]; (try simp (disch := omega) only [IntWalk.i64_in, IntWalk.u64_in, if_neg, if_pos])<;> rfl) ?_
      iterate 7 (refine Run.o1 (by simp only [go_sem, gt_iff_lt, ge_iff_le, pick_min, pick_max, hL, htk, hfr] <;> rfl) ?_)
      refine Run.nil ?_
      refine Exec.cndS (by simp only [go_sem, gt_iff_lt, ge_iff_le, pick_min, pick_max, hL, htk, hfr] <;> rfl) (fun hb53 => ?_) (fun hb53 => ?_)
      · skip
        have hk1 : k + 1 < a.ts.length := by have := of_decide_eq_true hb53; omega
        have ht1 := tr_get hk1
        have htv1 := v.trf _ _ ht1
        have tt1 : ((k : Int) + 1).toNat = k + 1 := by omega
        have hto : trTo a day k = min day (a.ts.getD (k + 1) default).fr := by unfold trTo; rw [ht1]
        refine Exec.reg ?_
        iterate 7 (refine Run.o1 (by simp only [go_sem, gt_iff_lt, ge_iff_le, pick_min, pick_max, hL, htk, hfr, ht1, tt1] <;> rfl) ?_)
        refine Run.o1 (by simp only [go_sem, gt_iff_lt, ge_iff_le, pick_min, pick_max, hL, htk, hfr, ht1, tt1]; (try simp (disch := omega) only [IntWalk.i64_in, IntWalk.u64_in, if_neg, if_pos])<;> rfl) ?_
        refine Run.o1 (by simp only [go_sem, gt_iff_lt, ge_iff_le, pick_min, pick_max, hL, htk, hfr, ht1, tt1]; (try simp (disch := omega) only [if_pos]); (try simp only [go_sem, gt_iff_lt, ge_iff_le, pick_min, pick_max, hL, htk, hfr, ht1, tt1])<;> rfl) ?_
        iterate 4 (refine Run.o1 (by simp only [go_sem, gt_iff_lt, ge_iff_le, pick_min, pick_max, hL, htk, hfr, ht1, tt1] <;> rfl) ?_)
        refine Run.nil ?_
        refine Exec.reg ?_
        iterate 3 (refine Run.o1 (by simp only [go_sem, gt_iff_lt, ge_iff_le, pick_min, pick_max, hL, htk, hfr, ht1, tt1] <;> rfl) ?_)
        refine Run.nil ?_
        refine Exec.cnd (by simp only [go_sem, gt_iff_lt, ge_iff_le, pick_min, pick_max, hL, htk, hfr, ht1, tt1] <;> rfl) (fun hb68 => ?_) (fun hb68 => ?_)
        · skip
          have hl2 : trFr a k < trTo a day k := by rw [hto]; exact of_decide_eq_true hb68
          have hTd := trTo_le a day k
          have hc1 := c_state_used a v known but ho (trTo a day k) (by omega)
          have hc2 := c_state_used a v known but ho (trFr a k) hFb
          have hsn : costT a known but day (k + 1) = costT a known but day k + ((used a known but (trTo a day k) - used a known but (trFr a k)) * (a.ts.getD k default).pence).tdiv 1000 := by
            rw [costT]; congr 1; exact if_pos hl2
          have hq := hcc.2.2 hl2
          have hqd := tdiv_bnd (d := 1000) hq.2.1 (by omega)
          have hqc : trCost a known but day k = ((used a known but (trTo a day k) - used a known but (trFr a k)) * (a.ts.getD k default).pence).tdiv 1000 := if_pos hl2
          rw [hqc] at hcl
          rw [hto] at hc1 hsn hq hqd hcl
          unfold stP at hc1 hc2
          rw [hL] at hc1 hc2
          refine Exec.opk1 16 ?_
          iterate 3 (refine OpenK.o1 (by simp only [go_sem, gt_iff_lt, ge_iff_le, pick_min, pick_max, hL, htk, hfr, ht1, tt1, hsn] <;> rfl) ?_)
          refine OpenK.cal (hc1) (by simp only [go_sem]) (by simp only [go_sem, gt_iff_lt, ge_iff_le, pick_min, pick_max, hL, htk, hfr, ht1, tt1, hsn] <;> rfl) (by exact ⟨by first | exact WkR.pure rfl | exact WkR.nil _ | exact WkR.int (by first | omega | (simp; done) | (simp; omega)), by first | exact WkR.pure rfl | exact WkR.nil _ | exact WkR.int (by first | omega | (simp; done) | (simp; omega)), trivial⟩) (fr0) (by simp only [go_sem, gt_iff_lt, ge_iff_le, pick_min, pick_max, hL, htk, hfr, ht1, tt1, hsn] <;> rfl) (by simp only [go_sem] <;> rfl) (by simp only [go_sem] <;> rfl) ?_
          iterate 2 (refine OpenK.o1 (by simp only [go_sem, gt_iff_lt, ge_iff_le, pick_min, pick_max, hL, htk, hfr, ht1, tt1, hsn] <;> rfl) ?_)
          refine OpenK.cal (hc2) (by simp only [go_sem]) (by simp only [go_sem, gt_iff_lt, ge_iff_le, pick_min, pick_max, hL, htk, hfr, ht1, tt1, hsn] <;> rfl) (by exact ⟨by first | exact WkR.pure rfl | exact WkR.nil _ | exact WkR.int (by first | omega | (simp; done) | (simp; omega)), by first | exact WkR.pure rfl | exact WkR.nil _ | exact WkR.int (by first | omega | (simp; done) | (simp; omega)), trivial⟩) (fr0) (by simp only [go_sem, gt_iff_lt, ge_iff_le, pick_min, pick_max, hL, htk, hfr, ht1, tt1, hsn] <;> rfl) (by simp only [go_sem] <;> rfl) (by simp only [go_sem] <;> rfl) ?_
          refine OpenK.o1 (by simp only [go_sem, gt_iff_lt, ge_iff_le, pick_min, pick_max, hL, htk, hfr, ht1, tt1, hsn]; (try simp (disch := omega) only [IntWalk.i64_in, IntWalk.u64_in, if_neg, if_pos])<;> rfl) ?_
          iterate 2 (refine OpenK.o1 (by simp only [go_sem, gt_iff_lt, ge_iff_le, pick_min, pick_max, hL, htk, hfr, ht1, tt1, hsn] <;> rfl) ?_)
          iterate 3 (refine OpenK.o1 (by simp only [go_sem, gt_iff_lt, ge_iff_le, pick_min, pick_max, hL, htk, hfr, ht1, tt1, hsn]; (try simp (disch := omega) only [IntWalk.i64_in, IntWalk.u64_in, if_neg, if_pos])<;> rfl) ?_)
          refine OpenK.o1 (by simp only [go_sem, gt_iff_lt, ge_iff_le, pick_min, pick_max, hL, htk, hfr, ht1, tt1, hsn] <;> rfl) ?_
          refine OpenK.nil (OpenE.fin (by decide +kernel) (by decide +kernel) ?_)
          refine BlkK.nrm ?_
          refine Exec.reg1 ?_
          refine Run.o1 (by simp only [go_sem, gt_iff_lt, ge_iff_le, pick_min, pick_max, hL, htk, hfr, ht1, tt1, hsn]; (try simp (disch := omega) only [IntWalk.i64_in, IntWalk.u64_in, if_neg, if_pos])<;> rfl) ?_
          refine Run.o1 (by simp only [go_sem, gt_iff_lt, ge_iff_le, pick_min, pick_max, hL, htk, hfr, ht1, tt1, hsn] <;> rfl) ?_
          refine Run.nil ?_
          refine ForK.nxt ?_ ?_ ?_
          · omega
          · exact Ghost.kp [0, 1, 5, 29, 30, 31] [] (by simp only [go_sem, gt_iff_lt, ge_iff_le, pick_min, pick_max, hL, htk, hfr, ht1, tt1, hsn] <;> first | exact eqz | rfl)
          · trivial
        · skip
          have hl2 : ¬ trFr a k < trTo a day k := by rw [hto]; exact of_decide_eq_false hb68
          have hsn : costT a known but day (k + 1) = costT a known but day k := by
            rw [costT]
            have e : trCost a known but day k = 0 := if_neg hl2
            rw [e, Int.add_zero]
          refine BlkK.nrm ?_
          refine Exec.reg1 ?_
          refine Run.o1 (by simp only [go_sem, gt_iff_lt, ge_iff_le, pick_min, pick_max, hL, htk, hfr, ht1, tt1, hsn]; (try simp (disch := omega) only [IntWalk.i64_in, IntWalk.u64_in, if_neg, if_pos])<;> rfl) ?_
          refine Run.o1 (by simp only [go_sem, gt_iff_lt, ge_iff_le, pick_min, pick_max, hL, htk, hfr, ht1, tt1, hsn] <;> rfl) ?_
          refine Run.nil ?_
          refine ForK.nxt ?_ ?_ ?_
          · omega
          · exact Ghost.kp [0, 1, 5, 29, 30, 31] [] (by simp only [go_sem, gt_iff_lt, ge_iff_le, pick_min, pick_max, hL, htk, hfr, ht1, tt1, hsn] <;> first | exact eqz | rfl)
          · trivial
      · skip
        have hk1 : ¬ k + 1 < a.ts.length := by have := of_decide_eq_false hb53; omega
        have hto : trTo a day k = day := by unfold trTo; rw [List.getElem?_eq_none (by omega)]
        refine Exec.skipS ?_
        refine Exec.reg ?_
        iterate 3 (refine Run.o1 (by simp only [go_sem, gt_iff_lt, ge_iff_le, pick_min, pick_max, hL, htk, hfr] <;> rfl) ?_)
        refine Run.nil ?_
        refine Exec.cnd (by simp only [go_sem, gt_iff_lt, ge_iff_le, pick_min, pick_max, hL, htk, hfr] <;> rfl) (fun hb68 => ?_) (fun hb68 => ?_)
        · skip
          have hl2 : trFr a k < trTo a day k := by rw [hto]; exact of_decide_eq_true hb68
          have hTd := trTo_le a day k
          have hc1 := c_state_used a v known but ho (trTo a day k) (by omega)
          have hc2 := c_state_used a v known but ho (trFr a k) hFb
          have hsn : costT a known but day (k + 1) = costT a known but day k + ((used a known but (trTo a day k) - used a known but (trFr a k)) * (a.ts.getD k default).pence).tdiv 1000 := by
            rw [costT]; congr 1; exact if_pos hl2
          have hq := hcc.2.2 hl2
          have hqd := tdiv_bnd (d := 1000) hq.2.1 (by omega)
          have hqc : trCost a known but day k = ((used a known but (trTo a day k) - used a known but (trFr a k)) * (a.ts.getD k default).pence).tdiv 1000 := if_pos hl2
          rw [hqc] at hcl
          rw [hto] at hc1 hsn hq hqd hcl
          unfold stP at hc1 hc2
          rw [hL] at hc1 hc2
          refine Exec.opk1 16 ?_
          iterate 3 (refine OpenK.o1 (by simp only [go_sem, gt_iff_lt, ge_iff_le, pick_min, pick_max, hL, htk, hfr, hsn] <;> rfl) ?_)
          refine OpenK.cal (hc1) (by simp only [go_sem]) (by simp only [go_sem, gt_iff_lt, ge_iff_le, pick_min, pick_max, hL, htk, hfr, hsn] <;> rfl) (by exact ⟨by first | exact WkR.pure rfl | exact WkR.nil _ | exact WkR.int (by first | omega | (simp; done) | (simp; omega)), by first | exact WkR.pure rfl | exact WkR.nil _ | exact WkR.int (by first | omega | (simp; done) | (simp; omega)), trivial⟩) (fr0) (by simp only [go_sem, gt_iff_lt, ge_iff_le, pick_min, pick_max, hL, htk, hfr, hsn] <;> rfl) (by simp only [go_sem] <;> rfl) (by simp only [go_sem] <;> rfl) ?_
          iterate 2 (refine OpenK.o1 (by simp only [go_sem, gt_iff_lt, ge_iff_le, pick_min, pick_max, hL, htk, hfr, hsn] <;> rfl) ?_)
          refine OpenK.cal (hc2) (by simp only [go_sem]) (by simp only [go_sem, gt_iff_lt, ge_iff_le, pick_min, pick_max, hL, htk, hfr, hsn] <;> rfl) (by exact ⟨by first | exact WkR.pure rfl | exact WkR.nil _ | exact WkR.int (by first | omega | (simp; done) | (simp; omega)), by first | exact WkR.pure rfl | exact WkR.nil _ | exact WkR.int (by first | omega | (simp; done) | (simp; omega)), trivial⟩) (fr0) (by simp only [go_sem, gt_iff_lt, ge_iff_le, pick_min, pick_max, hL, htk, hfr, hsn] <;> rfl) (by simp only [go_sem] <;> rfl) (by simp only [go_sem] <;> rfl) ?_
          refine OpenK.o1 (by simp only [go_sem, gt_iff_lt, ge_iff_le, pick_min, pick_max, hL, htk, hfr, hsn]; (try simp (disch := omega) only [IntWalk.i64_in, IntWalk.u64_in, if_neg, if_pos])<;> rfl) ?_
          iterate 2 (refine OpenK.o1 (by simp only [go_sem, gt_iff_lt, ge_iff_le, pick_min, pick_max, hL, htk, hfr, hsn] <;> rfl) ?_)
          iterate 3 (refine OpenK.o1 (by simp only [go_sem, gt_iff_lt, ge_iff_le, pick_min, pick_max, hL, htk, hfr, hsn]; (try simp (disch := omega) only [IntWalk.i64_in, IntWalk.u64_in, if_neg, if_pos])<;> rfl) ?_)
          refine OpenK.o1 (by simp only [go_sem, gt_iff_lt, ge_iff_le, pick_min, pick_max, hL, htk, hfr, hsn] <;> rfl) ?_
          refine OpenK.nil (OpenE.fin (by decide +kernel) (by decide +kernel) ?_)
          refine BlkK.nrm ?_
          refine Exec.reg1 ?_
          refine Run.o1 (by simp only [go_sem, gt_iff_lt, ge_iff_le, pick_min, pick_max, hL, htk, hfr, hsn]; (try simp (disch := omega) only [IntWalk.i64_in, IntWalk.u64_in, if_neg, if_pos])<;> rfl) ?_
          refine Run.o1 (by simp only [go_sem, gt_iff_lt, ge_iff_le, pick_min, pick_max, hL, htk, hfr, hsn] <;> rfl) ?_
          refine Run.nil ?_
          refine ForK.nxt ?_ ?_ ?_
          · omega
          · exact Ghost.kp [0, 1, 5, 29, 30, 31] [] (by simp only [go_sem, gt_iff_lt, ge_iff_le, pick_min, pick_max, hL, htk, hfr, hsn] <;> first | exact eqz | rfl)
          · trivial
        · skip
          have hl2 : ¬ trFr a k < trTo a day k := by rw [hto]; exact of_decide_eq_false hb68
          have hsn : costT a known but day (k + 1) = costT a known but day k := by
            rw [costT]
            have e : trCost a known but day k = 0 := if_neg hl2
            rw [e, Int.add_zero]
          refine BlkK.nrm ?_
          refine Exec.reg1 ?_
          refine Run.o1 (by simp only [go_sem, gt_iff_lt, ge_iff_le, pick_min, pick_max, hL, htk, hfr, hsn]; (try simp (disch := omega) only [IntWalk.i64_in, IntWalk.u64_in, if_neg, if_pos])<;> rfl) ?_
          refine Run.o1 (by simp only [go_sem, gt_iff_lt, ge_iff_le, pick_min, pick_max, hL, htk, hfr, hsn] <;> rfl) ?_
          refine Run.nil ?_
          refine ForK.nxt ?_ ?_ ?_
          · omega
          · exact Ghost.kp [0, 1, 5, 29, 30, 31] [] (by simp only [go_sem, gt_iff_lt, ge_iff_le, pick_min, pick_max, hL, htk, hfr, hsn] <;> first | exact eqz | rfl)
          · trivial
    · skip
      have hke : k = a.ts.length := by have := ge_of_dec hb32; omega
      subst hke
      have hcb := costT_bnd v (but := but) ho hd a.ts.length (Nat.le_refl _)
      refine Exec.exitS ?_
      refine ForK.ext ?_
      refine BlkK.hit ?_
      refine Exec.assocS ?_
      refine Exec.reg ?_
      iterate 6 (refine Run.o1 (by simp only [go_sem, gt_iff_lt, ge_iff_le, pick_min, pick_max, hL] <;> rfl) ?_)
      refine Run.nil ?_
      refine Exec.blk ?_
      refine Exec.forA [5, 86, 87, 88] [] (L.length) (fun j => [.slot 88 (.int j), .slot 5 (.int (feeO (costT a known but day a.ts.length) (L.take j)))]) (fun _ => True) (fun j => by simp only [go_sem] <;> rfl) (by simp only [go_sem, gt_iff_lt, ge_iff_le, pick_min, pick_max, hL, Int.natCast_zero, hz0] <;> rfl) ?_ (fun j hj Xj => ?_)
      · trivial
      · skip
        refine Exec.reg ?_
        refine Run.o1 (by simp only [go_sem, gt_iff_lt, ge_iff_le, pick_min, pick_max, hL] <;> rfl) ?_
        refine Run.nil ?_
        refine Exec.cndS (by simp only [go_sem, gt_iff_lt, ge_iff_le, pick_min, pick_max, hL] <;> rfl) (fun hb89 => ?_) (fun hb89 => ?_)
        · skip
          have hlt := lt_of_dec hb89
          obtain ⟨d, hk1⟩ := elem_of hb89
          have hm := hLm d (List.mem_of_getElem? hk1)
          have hdv := mem_val v hm
          have hub := feeL_bnd v (costT a known but day a.ts.length) hLm j (by omega)
          have hsn := feeO_snoc (costT a known but day a.ts.length) (L.take j) d
          rw [← take_snoc hk1] at hsn
          refine Exec.skipS ?_
          refine Exec.blk ?_
          by_cases hU : uph d = true
          · skip
            have hts : tstD d = .ifc 108 true (encDp d) := if_pos hU
            have hto : tFee d = 0 := if_pos hU
            refine Exec.reg ?_
            refine Run.o1 (by simp only [go_sem, gt_iff_lt, ge_iff_le, pick_min, pick_max, hL, hk1, hts, hto]; (try simp (disch := omega) only [if_pos]); (try simp only [go_sem, gt_iff_lt, ge_iff_le, pick_min, pick_max, hL, hk1, hts, hto])<;> rfl) ?_
            iterate 2 (refine Run.o1 (by simp only [go_sem, gt_iff_lt, ge_iff_le, pick_min, pick_max, hL, hk1, hts, hto] <;> rfl) ?_)
            refine Run.nil ?_
            refine Exec.reg1 ?_
            iterate 2 (refine Run.o1 (by simp only [go_sem, gt_iff_lt, ge_iff_le, pick_min, pick_max, hL, hk1, hts, hto] <;> rfl) ?_)
            refine Run.invw (c_upheld_fee d) (by simp only [go_sem] <;> rfl) up_methF (by kernel_rfl) (by simp only [go_sem] <;> rfl) (by exact ⟨WkR.pure rfl, trivial⟩) (by simp only [go_sem] <;> rfl) ?_
            refine Run.o1 (by simp only [go_sem, gt_iff_lt, ge_iff_le, pick_min, pick_max, hL, hk1, hts, hto]; (try simp (disch := omega) only [IntWalk.i64_in, IntWalk.u64_in, if_neg, if_pos])<;> rfl) ?_
            refine Run.o1 (by simp only [go_sem, gt_iff_lt, ge_iff_le, pick_min, pick_max, hL, hk1, hts, hto] <;> rfl) ?_
            refine Run.nil ?_
            refine BlkK.nrm ?_
            refine Exec.reg1 ?_
            refine Run.o1 (by simp only [go_sem, gt_iff_lt, ge_iff_le, pick_min, pick_max, hL, hk1, hts, hto]; (try simp (disch := omega) only [IntWalk.i64_in, IntWalk.u64_in, if_neg, if_pos])<;> rfl) ?_
            refine Run.o1 (by simp only [go_sem, gt_iff_lt, ge_iff_le, pick_min, pick_max, hL, hk1, hts, hto] <;> rfl) ?_
            refine Run.nil ?_
            refine ForK.nxt ?_ ?_ ?_
            · omega
            · exact Ghost.kp [5, 86, 87, 88] [] (by simp only [go_sem, gt_iff_lt, ge_iff_le, pick_min, pick_max, hL, hk1, hts, hto] <;> first | exact eqz | rfl)
            · trivial
          · skip
            have hts : tstD d = .ifc 109 true (encDp d) := if_neg hU
            have hto : tFee d = d.fee := if_neg hU
            refine Exec.reg ?_
            refine Run.o1 (by simp only [go_sem, gt_iff_lt, ge_iff_le, pick_min, pick_max, hL, hk1, hts, hto]; (try simp (disch := omega) only [if_pos]); (try simp only [go_sem, gt_iff_lt, ge_iff_le, pick_min, pick_max, hL, hk1, hts, hto])<;> rfl) ?_
            iterate 2 (refine Run.o1 (by simp only [go_sem, gt_iff_lt, ge_iff_le, pick_min, pick_max, hL, hk1, hts, hto] <;> rfl) ?_)
            refine Run.nil ?_
            refine Exec.reg1 ?_
            iterate 2 (refine Run.o1 (by simp only [go_sem, gt_iff_lt, ge_iff_le, pick_min, pick_max, hL, hk1, hts, hto] <;> rfl) ?_)
            refine Run.invw (c_refused_fee d) (by simp only [go_sem] <;> rfl) re_methF (by kernel_rfl) (by simp only [go_sem] <;> rfl) (by exact ⟨WkR.pure rfl, trivial⟩) (by simp only [go_sem] <;> rfl) ?_
            refine Run.o1 (by simp only [go_sem, gt_iff_lt, ge_iff_le, pick_min, pick_max, hL, hk1, hts, hto]; (try simp (disch := omega) only [IntWalk.i64_in, IntWalk.u64_in, if_neg, if_pos])<;> rfl) ?_
            refine Run.o1 (by simp only [go_sem, gt_iff_lt, ge_iff_le, pick_min, pick_max, hL, hk1, hts, hto] <;> rfl) ?_
            refine Run.nil ?_
            refine BlkK.nrm ?_
            refine Exec.reg1 ?_
            refine Run.o1 (by simp only [go_sem, gt_iff_lt, ge_iff_le, pick_min, pick_max, hL, hk1, hts, hto]; (try simp (disch := omega) only [IntWalk.i64_in, IntWalk.u64_in, if_neg, if_pos])<;> rfl) ?_
            refine Run.o1 (by simp only [go_sem, gt_iff_lt, ge_iff_le, pick_min, pick_max, hL, hk1, hts, hto] <;> rfl) ?_
            refine Run.nil ?_
            refine ForK.nxt ?_ ?_ ?_
            · omega
            · exact Ghost.kp [5, 86, 87, 88] [] (by simp only [go_sem, gt_iff_lt, ge_iff_le, pick_min, pick_max, hL, hk1, hts, hto] <;> first | exact eqz | rfl)
            · trivial
        · skip
          have hje : j = L.length := by have := ge_of_dec hb89; omega
          subst hje
          have hr : cost a known but day = feeO (costT a known but day a.ts.length) (L.take L.length) := by rw [List.take_length, ← hL]; rfl
          refine Exec.exitS ?_
          refine ForK.ext ?_
          refine BlkK.hit ?_
          refine Exec.reg ?_
          iterate 2 (refine Run.o1 (by simp only [go_sem, gt_iff_lt, ge_iff_le, pick_min, pick_max, hL, hr] <;> rfl) ?_)
          refine Run.nil ?_
          exact Ends.fin [] (rs := [.tmp 4]) rfl (by simp only [go_sem, gt_iff_lt, ge_iff_le, pick_min, pick_max, hL, hr] <;> rfl) (by simp only [go_sem, gt_iff_lt, ge_iff_le, pick_min, pick_max, hL, hr] <;> first | rfl | exact eqz)

end Go.Mw

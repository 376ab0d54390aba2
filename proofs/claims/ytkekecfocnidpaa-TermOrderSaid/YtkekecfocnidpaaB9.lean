/- Contracts of the functions that the term reaches: rows and broken seals are looked at. -/
import Derived.Test.YtkekecfocnidpaaB8
import Derived.Test.YtkekecfocnidpaaB3
set_option linter.unusedSimpArgs false
set_option linter.unusedVariables false
set_option linter.unusedSectionVars false
set_option linter.deprecated false
namespace Go.Mw
open Go.Proofs
open Go.Te
abbrev rowB (s : Stk) : Rws := rws s (begins s)
theorem rowB_len (s : Stk) : (rowB s).length = s.rs.length := rws_len (by simp [begins])
theorem rowB_get {s : Stk} {i : Nat} (hi : i < s.rs.length) : (rowB s)[i]? = some (rowOf s i, ((rowOf s i).day + (clsOf s (rowOf s i).cl).term, 0)) := by
  rw [rws_get (by simp [begins]) hi]
  congr 2
  refine endAt_of ?_
  unfold begins
  rw [List.getElem?_map, rowOf_get hi]; rfl
def rowK (s : Stk) : Nat := (firstE (rowErr s) s.rs.length).getD s.rs.length
def rowR (s : Stk) : Int × Int := match firstE (rowErr s) s.rs.length with
  | some k => ((k : Int), 5)
  | none => (0, 0)
theorem row_bad {s : Stk} {k : Nat} (h0 : ∀ j, j < k → rowErr s j = 0) (h1 : rowErr s k ≠ 0) (hk : k < s.rs.length) : rowK s = k ∧ rowR s = ((k : Int), 5) := by
  unfold rowK rowR
  rw [firstE_some h0 h1 hk]
  exact ⟨rfl, rfl⟩
theorem row_good {s : Stk} (h0 : ∀ j, j < s.rs.length → rowErr s j = 0) : rowK s = s.rs.length ∧ rowR s = (0, 0) := by
  unfold rowK rowR
  rw [firstE_none.2 h0]
  exact ⟨rfl, rfl⟩
def brkK (s : Stk) : Nat := (firstE (brErr s) s.bs.length).getD s.bs.length
def brkR (s : Stk) : Int × Int := match firstE (brErr s) s.bs.length with
  | some k => ((k : Int), brErr s k)
  | none => (0, 0)
theorem brk_bad {s : Stk} {k : Nat} (h0 : ∀ j, j < k → brErr s j = 0) (h1 : brErr s k ≠ 0) (hk : k < s.bs.length) : brkK s = k ∧ brkR s = ((k : Int), brErr s k) := by
  unfold brkK brkR
  rw [firstE_some h0 h1 hk]
  exact ⟨rfl, rfl⟩
theorem brk_good {s : Stk} (h0 : ∀ j, j < s.bs.length → brErr s j = 0) : brkK s = s.bs.length ∧ brkR s = (0, 0) := by
  unfold brkK brkR
  rw [firstE_none.2 h0]
  exact ⟨rfl, rfl⟩
abbrev rowsC0 (s : Stk) (n : Nat) : List AL := [.d (csD s.cs), .d (slsD s.rs), .d (psD s.ps), .d (bsD s.bs), .own 900 0 n n, .d (.raw (.map none))]
theorem take_get {α : Type} {l : List α} {k j : Nat} {x : α} (hj : j < k) (h : l[j]? = some x) : (l.take k)[j]? = some x := by rw [List.getElem?_take, if_pos hj]; exact h
set_option maxRecDepth 60000 in
set_option maxHeartbeats 16000000 in
/-- (*meterworks/term.store).checkRows -/
theorem c_checkRows (s : Stk) (v : Val s) : Con Try.prog 37 [.leaf (.ptr 902 0)] [(902, .cells (rowsC0 s (0))), (900, .arr 70 6 (([]).map encRow))] (.ret (tupI [(rowR s).1, (rowR s).2]) [(902, .cells (rowsC0 s (rowK s))), (900, .arr 70 6 (((rowB s).take (rowK s)).map encRow))]) := by
  have hrs := v.nrs
  have hbl := rowB_len s
  refine con_of follows_mixed Try.func37 rfl (by simp only [List.length_cons, List.length_nil, Try.ntmps37]; omega) (by kernel_rfl) rfl ?_
  refine Exec.reg ?_
  iterate 2 (refine Run.o ?_)
  refine Run.nil ?_
  refine Exec.assocS ?_
  refine Exec.reg ?_
  iterate 7 (refine Run.o ?_)
  refine Run.nil ?_
  refine Exec.blk ?_
  refine Exec.forA [0, 12, 13, 14] [902, 900] (s.rs.length) (fun k => [.slot 14 (.int k), .obj 902 (.cells (rowsC0 s (k))), .obj 900 (.arr 70 6 (((rowB s).take k).map encRow))]) (fun k => ∀ j, j < k → rowErr s j = 0) (fun k => by simp only [go_sem] <;> rfl) (by simp only [go_sem, Int.natCast_zero, List.take_zero] <;> rfl) ?_ (fun k hk hX => ?_)
  · exact fun j hj => absurd hj (by omega)
  · skip
    have htl : ((rowB s).take k).length = k := by rw [List.length_take]; omega
    refine Exec.reg ?_
    refine Run.o1 (by simp only [go_sem, htl] <;> rfl) ?_
    refine Run.nil ?_
    refine Exec.cndS (by simp only [go_sem, htl] <;> rfl) (fun hb15 => ?_) (fun hb15 => ?_)
    · skip
      have hlt := lt_of_dec hb15
      have hr := rowOf_get hlt
      obtain ⟨_, hcl, hdy⟩ := v.row _ (rowOf_mem hlt)
      have hcb := v.cls _ (cls_mem hcl.1 hcl.2)
      have hc := clsOf_get hcl.1 hcl.2
      have hsn : (rowB s).take (k + 1) = (rowB s).take k ++ [(rowOf s k, ((rowOf s k).day + (clsOf s (rowOf s k).cl).term, 0))] := take_succ_of (rowB_get hlt)
      refine Exec.skipS ?_
      refine Exec.blk ?_
      refine Exec.reg ?_
      refine Run.o1 (by simp only [go_sem, htl, hr, hc] <;> rfl) ?_
      refine Run.o1 (by simp only [go_sem, htl, hr, hc]; (try simp (disch := omega) only [if_pos]); (try simp only [go_sem, htl, hr, hc])<;> rfl) ?_
      iterate 4 (refine Run.o1 (by simp only [go_sem, htl, hr, hc] <;> rfl) ?_)
      refine Run.nil ?_
      refine Exec.assocS ?_
      refine Exec.reg ?_
      iterate 6 (refine Run.o1 (by simp only [go_sem, htl, hr, hc] <;> rfl) ?_)
      refine Run.nil ?_
      refine Exec.blk ?_
      refine Exec.forA [0, 4, 5, 12, 13, 14, 22, 23, 24] [902, 900, 5] (k) (fun j => [.slot 24 (.int j)]) (fun j => (s.rs.take j).any (fun o => overl o (rowOf s k)) = false) (fun j => by simp only [go_sem] <;> rfl) (by simp only [go_sem, htl, hr, hc] <;> rfl) ?_ (fun j hj Xj => ?_)
      · rfl
      · skip
        refine Exec.reg ?_
        refine Run.o1 (by simp only [go_sem, htl, hr, hc] <;> rfl) ?_
        refine Run.nil ?_
        refine Exec.cndS (by simp only [go_sem, htl, hr, hc] <;> rfl) (fun hb25 => ?_) (fun hb25 => ?_)
        · skip
          have hjk : j < k := by have := of_decide_eq_true hb25; omega
          have hro := rowOf_get (s := s) (i := j) (by omega)
          have hrj := take_get hjk (rowB_get (s := s) (i := j) (by omega))
          refine Exec.skipS ?_
          refine Exec.blk ?_
          refine Exec.reg ?_
          refine Run.o1 (by simp only [go_sem, htl, hr, hc, hrj]; (try simp (disch := omega) only [if_pos]); (try simp only [go_sem, htl, hr, hc, hrj])<;> rfl) ?_
          iterate 3 (refine Run.o1 (by simp only [go_sem, htl, hr, hc, hrj] <;> rfl) ?_)
          refine Run.nil ?_
          refine Exec.reg ?_
          iterate 7 (refine Run.o1 (by simp only [go_sem, htl, hr, hc, hrj] <;> rfl) ?_)
          refine Run.gop (by simp only [go_sem] <;> rfl) (by simp only [go_sem, htl, hr, hc, hrj] <;> rfl) (by simp only [go_sem] <;> rfl) ?_
          refine Run.gop (by simp only [go_sem] <;> rfl) (by simp only [go_sem, htl, hr, hc, hrj] <;> rfl) (by simp only [go_sem] <;> rfl) ?_
          refine Run.gop (by simp only [go_sem] <;> rfl) (by simp only [go_sem, htl, hr, hc, hrj] <;> rfl) (by simp only [go_sem] <;> rfl) ?_
          refine Run.gop (by simp only [go_sem] <;> rfl) (by simp only [go_sem, htl, hr, hc, hrj] <;> rfl) (by simp only [go_sem] <;> rfl) ?_
          refine Run.gop (by simp only [go_sem] <;> rfl) (by simp only [go_sem, htl, hr, hc, hrj] <;> rfl) (by simp only [go_sem] <;> rfl) ?_
          refine Run.gop (by simp only [go_sem] <;> rfl) (by simp only [go_sem, htl, hr, hc, hrj] <;> rfl) (by simp only [go_sem] <;> rfl) ?_
          refine Run.o1 (by simp only [go_sem, htl, hr, hc, hrj] <;> rfl) ?_
          refine Run.nil ?_
          refine Exec.cnd (by simp only [go_sem, htl, hr, hc, hrj] <;> rfl) (fun hb41 => ?_) (fun hb41 => ?_)
          · skip
            have hov : overl (rowOf s j) (rowOf s k) = true := hb41
            have hse : rowErr s k = 5 := by
              unfold rowErr
              rw [if_pos]
              exact List.any_eq_true.2 ⟨rowOf s j, List.mem_of_getElem? (i := j) (by rw [List.getElem?_take, if_pos hjk]; exact hro), hov⟩
            obtain ⟨hk1, hk2⟩ := row_bad hX (by rw [hse]; decide) hlt
            refine Exec.reg ?_
            iterate 3 (refine Run.o1 (by simp only [go_sem, htl, hr, hc, hrj, hk1, hk2] <;> rfl) ?_)
            refine Run.nil ?_
            refine BlkK.ret ?_
            refine ForK.ret ?_
            refine BlkK.ret ?_
            refine BlkK.ret ?_
            refine ForK.ret ?_
            refine BlkK.ret ?_
            exact Ends.fin [902, 900] (rs := [.tmp 2, .tmp 3]) rfl (by simp only [go_sem, htl, hr, hc, hrj, hk1, hk2] <;> rfl) (by simp only [go_sem, htl, hr, hc, hrj, hk1, hk2] <;> first | rfl | ((repeat' (first | with_reducible_and_instances rfl | refine st_eq ?_ ?_ ?_ | refine ret_eq ?_ | refine tup_eq ?_ | refine tm_eq ?_ ?_ | refine arr_eq ?_ | refine cells_eq ?_ | refine val_eq ?_ | refine ls_eq ?_ ?_ | refine own_eq ?_ ?_ | refine sl_eq ?_ | refine b_eq ?_ | (refine i_eq ?_; omega))); done))
          · skip
            refine BlkK.nrm ?_
            refine Exec.reg1 ?_
            refine Run.o1 (by simp only [go_sem, htl, hr, hc, hrj]; (try simp (disch := omega) only [IntWalk.i64_in, IntWalk.u64_in, if_neg, if_pos])<;> rfl) ?_
            refine Run.o1 (by simp only [go_sem, htl, hr, hc, hrj] <;> rfl) ?_
            refine Run.nil ?_
            refine ForK.nxt ?_ ?_ ?_
            · omega
            · exact Ghost.kp [0, 4, 5, 12, 13, 14, 22, 23, 24] [902, 900, 5] (by simp only [go_sem, htl, hr, hc, hrj]; first | ((repeat' (first | with_reducible_and_instances rfl | refine st_eq ?_ ?_ ?_ | refine ret_eq ?_ | refine tup_eq ?_ | refine tm_eq ?_ ?_ | refine arr_eq ?_ | refine cells_eq ?_ | refine val_eq ?_ | refine ls_eq ?_ ?_ | refine own_eq ?_ ?_ | refine sl_eq ?_ | refine b_eq ?_ | (refine i_eq ?_; omega))); done) | rfl)
            · exact any_step Xj hro (by exact hb41)
        · skip
          have hjk : k = j := by have := of_decide_eq_false hb25; omega
          subst hjk
          have hse : rowErr s k = 0 := by unfold rowErr; rw [if_neg (by rw [Xj]; decide)]
          refine Exec.exitS ?_
          refine ForK.ext ?_
          refine BlkK.hit ?_
          refine Exec.opk1 27 ?_
          refine OpenK.o1 (by simp only [go_sem, htl, hr, hc] <;> rfl) ?_
          refine OpenK.o1 (by simp only [go_sem, htl, hr, hc] <;> rfl) ?_
          refine OpenK.o1 (by simp only [go_sem, htl, hr, hc] <;> rfl) ?_
          refine OpenK.o1 (by simp only [go_sem, htl, hr, hc] <;> rfl) ?_
          refine OpenK.o1 (by simp only [go_sem, htl, hr, hc] <;> rfl) ?_
          refine OpenK.o1 (by simp only [go_sem, htl, hr, hc] <;> rfl) ?_
          refine OpenK.o1 (by simp only [go_sem, htl, hr, hc] <;> rfl) ?_
          refine OpenK.o1 (by simp only [go_sem, htl, hr, hc] <;> rfl) ?_
          refine OpenK.o1 (by simp only [go_sem, htl, hr, hc] <;> rfl) ?_
          refine OpenK.o1 (by simp only [go_sem, htl, hr, hc] <;> rfl) ?_
          refine OpenK.o1 (by simp only [go_sem, htl, hr, hc] <;> rfl) ?_
          refine OpenK.o1 (by simp only [go_sem, htl, hr, hc] <;> rfl) ?_
          refine OpenK.o1 (by simp only [go_sem, htl, hr, hc] <;> rfl) ?_
          refine OpenK.o1 (by simp only [go_sem, htl, hr, hc] <;> rfl) ?_
          refine OpenK.o1 (by simp only [go_sem, htl, hr, hc] <;> rfl) ?_
          refine OpenK.o1 (by simp only [go_sem, htl, hr, hc]; (try simp (disch := omega) only [if_pos]); (try simp only [go_sem, htl, hr, hc])<;> rfl) ?_
          refine OpenK.o1 (by simp only [go_sem, htl, hr, hc] <;> rfl) ?_
          refine OpenK.o1 (by simp only [go_sem, htl, hr, hc] <;> rfl) ?_
          refine OpenK.o1 (by simp only [go_sem, htl, hr, hc]; (try simp (disch := omega) only [IntWalk.i64_in, IntWalk.u64_in, if_neg, if_pos])<;> rfl) ?_
          refine OpenK.o1 (by simp only [go_sem, htl, hr, hc] <;> rfl) ?_
          refine OpenK.o1 (by simp only [go_sem, htl, hr, hc] <;> rfl) ?_
          refine OpenK.o1 (by simp only [go_sem, htl, hr, hc]; (try simp (disch := omega) only [if_pos]); (try simp only [go_sem, htl, hr, hc]) <;> first | (refine ite_run ⟨by (try simp only [List.length_append, List.length_drop, List.length_take, List.length_map, List.length_cons, List.length_nil, List.length_replicate, List.length_set, List.length_range, Nat.zero_add]); omega, by (try simp only [List.length_append, List.length_drop, List.length_take, List.length_map, List.length_cons, List.length_nil, List.length_replicate, List.length_set, List.length_range, Nat.zero_add]); omega, by repeat (first | exact al_nil | assumption | refine al_app ?_ ?_ | refine al_drop ?_ | refine al_take ?_ | exact al_map (fun _ => rfl) | exact al_rep rfl | refine al_cons rfl ?_)⟩ ?_; simp only [go_sem, htl, hr, hc] <;> rfl) | (refine ite_run ⟨by (try simp only [List.length_append, List.length_drop, List.length_take, List.length_map, List.length_cons, List.length_nil, List.length_replicate, List.length_set, List.length_range, Nat.zero_add]); omega, by repeat (first | exact al_nil | assumption | refine al_app ?_ ?_ | refine al_drop ?_ | refine al_take ?_ | exact al_map (fun _ => rfl) | exact al_rep rfl | refine al_cons rfl ?_)⟩ ?_; simp only [go_sem, htl, hr, hc] <;> rfl) | rfl) ?_
          refine OpenK.o1 (by simp only [go_sem, htl, hr, hc] <;> rfl) ?_
          refine OpenK.o1 (by simp only [go_sem, htl, hr, hc] <;> rfl) ?_
          refine OpenK.o1 (by simp only [go_sem, htl, hr, hc] <;> rfl) ?_
          refine OpenK.nil (OpenE.finT (by kernel_rfl) (by kernel_rfl) (by kernel_rfl) ?_)
          refine BlkK.nrm ?_
          refine Exec.reg1 ?_
          refine Run.o1 (by simp only [go_sem, htl, hr, hc]; (try simp (disch := omega) only [IntWalk.i64_in, IntWalk.u64_in, if_neg, if_pos])<;> rfl) ?_
          refine Run.o1 (by simp only [go_sem, htl, hr, hc] <;> rfl) ?_
          refine Run.nil ?_
          refine ForK.nxt ?_ ?_ ?_
          · omega
          · exact Ghost.kp [0, 12, 13, 14] [902, 900] (by simp only [go_sem, htl, hr, hc]; first | ((repeat' (first | with_reducible_and_instances rfl | refine st_eq ?_ ?_ ?_ | refine ret_eq ?_ | refine tup_eq ?_ | refine tm_eq ?_ ?_ | refine arr_eq ?_ | refine cells_eq ?_ | refine val_eq ?_ | refine ls_eq ?_ ?_ | refine own_eq ?_ ?_ | refine sl_eq ?_ | refine b_eq ?_ | (refine i_eq ?_; omega))); (all_goals (first | omega | (rw [hsn]; simp; done) | (rw [hsn]; simp [htl]; done) | (rw [hsn, List.map_append]; rfl) | (simp [htl]; done)))) | rfl)
          · exact fun j hj => if e : j = k then e ▸ hse else hX j (by omega)
    · skip
      have hke : k = s.rs.length := by have := ge_of_dec hb15; omega
      subst hke
      obtain ⟨hk1, hk2⟩ := row_good (s := s) hX
      refine Exec.exitS ?_
      refine ForK.ext ?_
      refine BlkK.hit ?_
      refine Exec.reg ?_
      iterate 2 (refine Run.o1 (by simp only [go_sem, htl, hk1, hk2] <;> rfl) ?_)
      refine Run.nil ?_
      exact Ends.fin [902, 900] (rs := [.tmp 2, .tmp 3]) rfl (by simp only [go_sem, htl, hk1, hk2] <;> rfl) (by simp only [go_sem, htl, hk1, hk2] <;> first | rfl | ((repeat' (first | with_reducible_and_instances rfl | refine st_eq ?_ ?_ ?_ | refine ret_eq ?_ | refine tup_eq ?_ | refine tm_eq ?_ ?_ | refine arr_eq ?_ | refine cells_eq ?_ | refine val_eq ?_ | refine ls_eq ?_ ?_ | refine own_eq ?_ ?_ | refine sl_eq ?_ | refine b_eq ?_ | (refine i_eq ?_; omega))); done))

set_option maxRecDepth 60000 in
set_option maxHeartbeats 16000000 in
/-- (*meterworks/term.store).checkBroken -/
theorem c_checkBroken (s : Stk) (v : Val s) : Con Try.prog 38 [.leaf (.ptr 902 0)] [(902, .cells (rowsC0 s (s.rs.length))), (900, .arr 70 6 ((rowB s).map encRow))] (.ret (tupI [(brkR s).1, (brkR s).2]) [(902, .cells [.d (csD s.cs), .d (slsD s.rs), .d (psD s.ps), .d (bsD s.bs), .own 900 0 s.rs.length s.rs.length, .obj 10]), (900, .arr 70 6 ((rowB s).map encRow)), (10, bkM (s.bs.take (brkK s)))]) := by
  have hrs := v.nrs
  have hbs := v.nbs
  have hbl := rowB_len s
  have hbb : (begins s).length = s.rs.length := by simp [begins]
  have hm0 : (AO.map [] : AO) = .map ((s.bs.take 0).map encBk) := rfl
  refine con_of follows_mixed Try.func38 rfl (by simp only [List.length_cons, List.length_nil, Try.ntmps38]; omega) (by kernel_rfl) rfl ?_
  refine Exec.reg ?_
  iterate 2 (refine Run.o1 (by simp only [go_sem, Int.toNat_zero, Nat.zero_mul, Int.toNat_one, Nat.one_mul] <;> rfl) ?_)
  refine Run.nil ?_
  refine Exec.reg ?_
  iterate 5 (refine Run.o1 (by simp only [go_sem, Int.toNat_zero, Nat.zero_mul, Int.toNat_one, Nat.one_mul] <;> rfl) ?_)
  refine Run.nil ?_
  refine Exec.assocS ?_
  refine Exec.reg ?_
  iterate 7 (refine Run.o1 (by simp only [go_sem, Int.toNat_zero, Nat.zero_mul, Int.toNat_one, Nat.one_mul] <;> rfl) ?_)
  refine Run.nil ?_
  refine Exec.blk ?_
  refine Exec.forA [0, 17, 18, 19] [902, 900, 10] (s.bs.length) (fun k => [.slot 19 (.int k), .obj 10 (bkM (s.bs.take k))]) (fun k => ∀ j, j < k → brErr s j = 0) (fun k => by simp only [go_sem] <;> rfl) (by simp only [go_sem, Int.toNat_zero, Nat.zero_mul, Int.toNat_one, Nat.one_mul, Int.natCast_zero, hm0] <;> rfl) ?_ (fun k hk hX => ?_)
  · exact fun j hj => absurd hj (by omega)
  · skip
    refine Exec.reg ?_
    refine Run.o1 (by simp only [go_sem, Int.toNat_zero, Nat.zero_mul, Int.toNat_one, Nat.one_mul] <;> rfl) ?_
    refine Run.nil ?_
    refine Exec.cndS (by simp only [go_sem, Int.toNat_zero, Nat.zero_mul, Int.toNat_one, Nat.one_mul] <;> rfl) (fun hb20 => ?_) (fun hb20 => ?_)
    · skip
      have hlt := lt_of_dec hb20
      have hbg := brOf_get hlt
      generalize hbe : brOf s k = b at hbg
      have hbb2 := v.brk b (List.mem_of_getElem? hbg)
      have hfc := c_find_c s (rowB s) (by omega) (s.bs.take k) b.no
      rw [hbl, rws_find hbb] at hfc
      refine Exec.skipS ?_
      refine Exec.blk ?_
      refine Exec.reg ?_
      refine Run.o1 (by simp only [go_sem, Int.toNat_zero, Nat.zero_mul, Int.toNat_one, Nat.one_mul, hbg] <;> rfl) ?_
      refine Run.o1 (by simp only [go_sem, Int.toNat_zero, Nat.zero_mul, Int.toNat_one, Nat.one_mul, hbg]; (try simp (disch := omega) only [if_pos]); (try simp only [go_sem, Int.toNat_zero, Nat.zero_mul, Int.toNat_one, Nat.one_mul, hbg])<;> rfl) ?_
      iterate 4 (refine Run.o1 (by simp only [go_sem, Int.toNat_zero, Nat.zero_mul, Int.toNat_one, Nat.one_mul, hbg] <;> rfl) ?_)
      refine Run.nil ?_
      by_cases hrw : rowI s b.no = none
      · skip
        rw [hrw] at hfc
        refine Exec.reg ?_
        refine Run.o1 (by simp only [go_sem, Int.toNat_zero, Nat.zero_mul, Int.toNat_one, Nat.one_mul, hbg, findV] <;> rfl) ?_
        refine Run.o1 (by simp only [go_sem, Int.toNat_zero, Nat.zero_mul, Int.toNat_one, Nat.one_mul, hbg, findV]; (try simp (disch := omega) only [if_pos]); (try simp only [go_sem, Int.toNat_zero, Nat.zero_mul, Int.toNat_one, Nat.one_mul, hbg, findV])<;> rfl) ?_
        refine Run.o1 (by simp only [go_sem, Int.toNat_zero, Nat.zero_mul, Int.toNat_one, Nat.one_mul, hbg, findV] <;> rfl) ?_
        refine Run.lendG [(902, 902), (900, 900), (901, 10)] (by simp only [go_sem] <;> rfl) (hfc) (by simp only [go_sem]) (.inl ⟨[], by simp only [go_sem] <;> rfl, rfl⟩) (by simp only [go_sem] <;> rfl) (by exact ⟨by first | exact WkR.pure rfl | exact WkR.of rfl rfl | exact WkR.nil _ | exact WkR.int (by first | omega | (simp; done) | (simp; omega)) | exact WkR.fptW rfl ⟨by first | exact .inl rfl | exact .inr rfl, by first | exact .inl rfl | exact .inr rfl, by first | exact .inl rfl | exact .inr rfl, by first | exact .inl rfl | exact .inr rfl, by first | exact .inl rfl | exact .inr rfl, by first | exact .inl rfl | exact .inr rfl, trivial⟩, by first | exact WkR.pure rfl | exact WkR.of rfl rfl | exact WkR.nil _ | exact WkR.int (by first | omega | (simp; done) | (simp; omega)) | exact WkR.fptW rfl ⟨by first | exact .inl rfl | exact .inr rfl, by first | exact .inl rfl | exact .inr rfl, by first | exact .inl rfl | exact .inr rfl, by first | exact .inl rfl | exact .inr rfl, by first | exact .inl rfl | exact .inr rfl, by first | exact .inl rfl | exact .inr rfl, trivial⟩, trivial⟩) rfl (by decide) (by first | rfl | (simp only [List.all_cons, List.all_nil, inn_bk, Bool.and_true, Bool.true_and]; done) | (simp only [List.all_cons, List.all_nil, inn_bk, Bool.and_true, Bool.true_and] <;> rfl)) (by intro p hp n hn; simp only [List.mem_cons, List.not_mem_nil, or_false] at hp; rcases hp with rfl | rfl | rfl <;> (simp [look] at hn; subst hn; simp only [go_sem] <;> rfl)) (by intro p hp; simp only [List.mem_cons, List.not_mem_nil, or_false] at hp; rcases hp with rfl | rfl | rfl <;> (first | exact ⟨_, rfl, back_refl _⟩ | exact ⟨_, rfl, _, rfl, by simp⟩ | exact ⟨_, rfl, _, rfl⟩)) (by intro p hp hn; simp only [List.mem_cons, List.not_mem_nil, or_false] at hp; rcases hp with rfl | rfl | rfl <;> simp [look] at hn) (by simp only [go_sem] <;> rfl) ?_
        refine Run.o1 (by simp only [go_sem, Int.toNat_zero, Nat.zero_mul, Int.toNat_one, Nat.one_mul, hbg, findV] <;> rfl) ?_
        refine Run.nil ?_
        by_cases htw : (s.bs.take k).any (fun c => c.no == b.no) = true
        · skip
          obtain ⟨c, hcf⟩ : ∃ c, (s.bs.take k).find? (fun c => c.no == b.no) = some c := by
            cases hf : (s.bs.take k).find? (fun c => c.no == b.no) with
            | some c => exact ⟨c, rfl⟩
            | none =>
              have h1 := List.find?_eq_none.1 hf
              obtain ⟨c, h2, h3⟩ := List.any_eq_true.1 htw
              exact absurd h3 (h1 c h2)
          have hmg := map_get b.no (s.bs.take k)
          rw [hcf] at hmg
          simp only [Option.map_some] at hmg
          refine Exec.opk 14 ?_
          refine OpenK.o1 (by simp only [go_sem, Int.toNat_zero, Nat.zero_mul, Int.toNat_one, Nat.one_mul, hbg, findV, hmg] <;> rfl) ?_
          refine OpenK.o1 (by simp only [go_sem, Int.toNat_zero, Nat.zero_mul, Int.toNat_one, Nat.one_mul, hbg, findV, hmg] <;> rfl) ?_
          refine OpenK.o1 (by simp only [go_sem, Int.toNat_zero, Nat.zero_mul, Int.toNat_one, Nat.one_mul, hbg, findV, hmg] <;> rfl) ?_
          refine OpenK.o1 (by simp only [go_sem, Int.toNat_zero, Nat.zero_mul, Int.toNat_one, Nat.one_mul, hbg, findV, hmg] <;> rfl) ?_
          refine OpenK.o1 (by simp only [go_sem, Int.toNat_zero, Nat.zero_mul, Int.toNat_one, Nat.one_mul, hbg, findV, hmg]; (try simp (disch := omega) only [if_pos]); (try simp only [go_sem, Int.toNat_zero, Nat.zero_mul, Int.toNat_one, Nat.one_mul, hbg, findV, hmg])<;> rfl) ?_
          refine OpenK.o1 (by simp only [go_sem, Int.toNat_zero, Nat.zero_mul, Int.toNat_one, Nat.one_mul, hbg, findV, hmg] <;> rfl) ?_
          refine OpenK.o1 (by simp only [go_sem, Int.toNat_zero, Nat.zero_mul, Int.toNat_one, Nat.one_mul, hbg, findV, hmg] <;> rfl) ?_
          refine OpenK.o1 (by simp only [go_sem, Int.toNat_zero, Nat.zero_mul, Int.toNat_one, Nat.one_mul, hbg, findV, hmg] <;> rfl) ?_
          refine OpenK.o1 (by simp only [go_sem, Int.toNat_zero, Nat.zero_mul, Int.toNat_one, Nat.one_mul, hbg, findV, hmg] <;> rfl) ?_
          refine OpenK.o1 (by simp only [go_sem, Int.toNat_zero, Nat.zero_mul, Int.toNat_one, Nat.one_mul, hbg, findV, hmg] <;> rfl) ?_
          refine OpenK.o1 (by simp only [go_sem, Int.toNat_zero, Nat.zero_mul, Int.toNat_one, Nat.one_mul, hbg, findV, hmg] <;> rfl) ?_
          refine OpenK.o1 (by simp only [go_sem, Int.toNat_zero, Nat.zero_mul, Int.toNat_one, Nat.one_mul, hbg, findV, hmg] <;> rfl) ?_
          refine OpenK.nil (OpenE.fin (by decide +kernel) (by decide +kernel) ?_)
          refine Exec.blk ?_
          refine Exec.reg ?_
          iterate 3 (refine Run.o1 (by simp only [go_sem, Int.toNat_zero, Nat.zero_mul, Int.toNat_one, Nat.one_mul, hbg, findV, hmg] <;> rfl) ?_)
          refine Run.nil ?_
          refine Exec.cnd (by simp only [go_sem, Int.toNat_zero, Nat.zero_mul, Int.toNat_one, Nat.one_mul, hbg, findV, hmg] <;> rfl) (fun hb38 => ?_) (fun hb38 => ?_)
          · skip
            have hse : brErr s k = 4 := by unfold brErr; rw [hbe, hrw]
            obtain ⟨hk1, hk2⟩ := brk_bad hX (by rw [hse]; decide) hlt
            rw [hse] at hk2
            refine Exec.reg ?_
            iterate 3 (refine Run.o1 (by simp only [go_sem, Int.toNat_zero, Nat.zero_mul, Int.toNat_one, Nat.one_mul, hbg, findV, hmg, hk1, hk2] <;> rfl) ?_)
            refine Run.nil ?_
            refine BlkK.ret ?_
            refine BlkK.ret ?_
            refine ForK.ret ?_
            refine BlkK.ret ?_
            exact Ends.fin [902, 900, 10] (rs := [.tmp 2, .tmp 3]) rfl (by simp only [go_sem, Int.toNat_zero, Nat.zero_mul, Int.toNat_one, Nat.one_mul, hbg, findV, hmg, hk1, hk2] <;> rfl) (by simp only [go_sem, Int.toNat_zero, Nat.zero_mul, Int.toNat_one, Nat.one_mul, hbg, findV, hmg, hk1, hk2] <;> first | rfl | ((repeat' (first | with_reducible_and_instances rfl | refine st_eq ?_ ?_ ?_ | refine ret_eq ?_ | refine tup_eq ?_ | refine tm_eq ?_ ?_ | refine arr_eq ?_ | refine cells_eq ?_ | refine val_eq ?_ | refine ls_eq ?_ ?_ | refine own_eq ?_ ?_ | refine sl_eq ?_ | refine b_eq ?_ | (refine i_eq ?_; omega))); done))
          · exact absurd hb38 (by simp)
        · skip
          have htw : (s.bs.take k).any (fun c => c.no == b.no) = false := by simpa using htw
          have hcf : (s.bs.take k).find? (fun c => c.no == b.no) = none := find_never (k := (s.bs.take k).length) (by rw [List.take_length]; exact htw) (Nat.le_refl _)
          have hmg := map_get b.no (s.bs.take k)
          rw [hcf] at hmg
          simp only [Option.map_none] at hmg
          refine Exec.opk 14 ?_
          refine OpenK.o1 (by simp only [go_sem, Int.toNat_zero, Nat.zero_mul, Int.toNat_one, Nat.one_mul, hbg, findV, hmg] <;> rfl) ?_
          refine OpenK.o1 (by simp only [go_sem, Int.toNat_zero, Nat.zero_mul, Int.toNat_one, Nat.one_mul, hbg, findV, hmg] <;> rfl) ?_
          refine OpenK.o1 (by simp only [go_sem, Int.toNat_zero, Nat.zero_mul, Int.toNat_one, Nat.one_mul, hbg, findV, hmg] <;> rfl) ?_
          refine OpenK.o1 (by simp only [go_sem, Int.toNat_zero, Nat.zero_mul, Int.toNat_one, Nat.one_mul, hbg, findV, hmg] <;> rfl) ?_
          refine OpenK.o1 (by simp only [go_sem, Int.toNat_zero, Nat.zero_mul, Int.toNat_one, Nat.one_mul, hbg, findV, hmg]; (try simp (disch := omega) only [if_pos]); (try simp only [go_sem, Int.toNat_zero, Nat.zero_mul, Int.toNat_one, Nat.one_mul, hbg, findV, hmg])<;> rfl) ?_
          refine OpenK.o1 (by simp only [go_sem, Int.toNat_zero, Nat.zero_mul, Int.toNat_one, Nat.one_mul, hbg, findV, hmg] <;> rfl) ?_
          refine OpenK.o1 (by simp only [go_sem, Int.toNat_zero, Nat.zero_mul, Int.toNat_one, Nat.one_mul, hbg, findV, hmg] <;> rfl) ?_
          refine OpenK.o1 (by simp only [go_sem, Int.toNat_zero, Nat.zero_mul, Int.toNat_one, Nat.one_mul, hbg, findV, hmg] <;> rfl) ?_
          refine OpenK.o1 (by simp only [go_sem, Int.toNat_zero, Nat.zero_mul, Int.toNat_one, Nat.one_mul, hbg, findV, hmg] <;> rfl) ?_
          refine OpenK.o1 (by simp only [go_sem, Int.toNat_zero, Nat.zero_mul, Int.toNat_one, Nat.one_mul, hbg, findV, hmg] <;> rfl) ?_
          refine OpenK.o1 (by simp only [go_sem, Int.toNat_zero, Nat.zero_mul, Int.toNat_one, Nat.one_mul, hbg, findV, hmg] <;> rfl) ?_
          refine OpenK.o1 (by simp only [go_sem, Int.toNat_zero, Nat.zero_mul, Int.toNat_one, Nat.one_mul, hbg, findV, hmg] <;> rfl) ?_
          refine OpenK.nil (OpenE.fin (by decide +kernel) (by decide +kernel) ?_)
          refine Exec.blk ?_
          refine Exec.reg ?_
          iterate 3 (refine Run.o1 (by simp only [go_sem, Int.toNat_zero, Nat.zero_mul, Int.toNat_one, Nat.one_mul, hbg, findV, hmg] <;> rfl) ?_)
          refine Run.nil ?_
          refine Exec.cnd (by simp only [go_sem, Int.toNat_zero, Nat.zero_mul, Int.toNat_one, Nat.one_mul, hbg, findV, hmg] <;> rfl) (fun hb38 => ?_) (fun hb38 => ?_)
          · skip
            have hse : brErr s k = 4 := by unfold brErr; rw [hbe, hrw]
            obtain ⟨hk1, hk2⟩ := brk_bad hX (by rw [hse]; decide) hlt
            rw [hse] at hk2
            refine Exec.reg ?_
            iterate 3 (refine Run.o1 (by simp only [go_sem, Int.toNat_zero, Nat.zero_mul, Int.toNat_one, Nat.one_mul, hbg, findV, hmg, hk1, hk2] <;> rfl) ?_)
            refine Run.nil ?_
            refine BlkK.ret ?_
            refine BlkK.ret ?_
            refine ForK.ret ?_
            refine BlkK.ret ?_
            exact Ends.fin [902, 900, 10] (rs := [.tmp 2, .tmp 3]) rfl (by simp only [go_sem, Int.toNat_zero, Nat.zero_mul, Int.toNat_one, Nat.one_mul, hbg, findV, hmg, hk1, hk2] <;> rfl) (by simp only [go_sem, Int.toNat_zero, Nat.zero_mul, Int.toNat_one, Nat.one_mul, hbg, findV, hmg, hk1, hk2] <;> first | rfl | ((repeat' (first | with_reducible_and_instances rfl | refine st_eq ?_ ?_ ?_ | refine ret_eq ?_ | refine tup_eq ?_ | refine tm_eq ?_ ?_ | refine arr_eq ?_ | refine cells_eq ?_ | refine val_eq ?_ | refine ls_eq ?_ ?_ | refine own_eq ?_ ?_ | refine sl_eq ?_ | refine b_eq ?_ | (refine i_eq ?_; omega))); done))
          · exact absurd hb38 (by simp)
      · skip
        obtain ⟨i, hi⟩ : ∃ i, rowI s b.no = some i := Option.ne_none_iff_exists'.1 hrw
        have hil := (rowI_lt hi).1
        have hg := rws_get hbb hil
        rw [hi] at hfc
        refine Exec.reg ?_
        refine Run.o1 (by simp only [go_sem, Int.toNat_zero, Nat.zero_mul, Int.toNat_one, Nat.one_mul, hbg, findV, hg, hbl, List.length_map] <;> rfl) ?_
        refine Run.o1 (by simp only [go_sem, Int.toNat_zero, Nat.zero_mul, Int.toNat_one, Nat.one_mul, hbg, findV, hg, hbl, List.length_map]; (try simp (disch := omega) only [if_pos]); (try simp only [go_sem, Int.toNat_zero, Nat.zero_mul, Int.toNat_one, Nat.one_mul, hbg, findV, hg, hbl, List.length_map])<;> rfl) ?_
        refine Run.o1 (by simp only [go_sem, Int.toNat_zero, Nat.zero_mul, Int.toNat_one, Nat.one_mul, hbg, findV, hg, hbl, List.length_map] <;> rfl) ?_
        refine Run.lendG [(902, 902), (900, 900), (901, 10)] (by simp only [go_sem] <;> rfl) (hfc) (by simp only [go_sem]) (.inl ⟨[], by simp only [go_sem] <;> rfl, rfl⟩) (by simp only [go_sem] <;> rfl) (by exact ⟨by first | exact WkR.pure rfl | exact WkR.of rfl rfl | exact WkR.nil _ | exact WkR.int (by first | omega | (simp; done) | (simp; omega)) | exact WkR.fptW rfl ⟨by first | exact .inl rfl | exact .inr rfl, by first | exact .inl rfl | exact .inr rfl, by first | exact .inl rfl | exact .inr rfl, by first | exact .inl rfl | exact .inr rfl, by first | exact .inl rfl | exact .inr rfl, by first | exact .inl rfl | exact .inr rfl, trivial⟩, by first | exact WkR.pure rfl | exact WkR.of rfl rfl | exact WkR.nil _ | exact WkR.int (by first | omega | (simp; done) | (simp; omega)) | exact WkR.fptW rfl ⟨by first | exact .inl rfl | exact .inr rfl, by first | exact .inl rfl | exact .inr rfl, by first | exact .inl rfl | exact .inr rfl, by first | exact .inl rfl | exact .inr rfl, by first | exact .inl rfl | exact .inr rfl, by first | exact .inl rfl | exact .inr rfl, trivial⟩, trivial⟩) rfl (by decide) (by first | rfl | (simp only [List.all_cons, List.all_nil, inn_bk, Bool.and_true, Bool.true_and]; done) | (simp only [List.all_cons, List.all_nil, inn_bk, Bool.and_true, Bool.true_and] <;> rfl)) (by intro p hp n hn; simp only [List.mem_cons, List.not_mem_nil, or_false] at hp; rcases hp with rfl | rfl | rfl <;> (simp [look] at hn; subst hn; simp only [go_sem] <;> rfl)) (by intro p hp; simp only [List.mem_cons, List.not_mem_nil, or_false] at hp; rcases hp with rfl | rfl | rfl <;> (first | exact ⟨_, rfl, back_refl _⟩ | exact ⟨_, rfl, _, rfl, by simp⟩ | exact ⟨_, rfl, _, rfl⟩)) (by intro p hp hn; simp only [List.mem_cons, List.not_mem_nil, or_false] at hp; rcases hp with rfl | rfl | rfl <;> simp [look] at hn) (by simp only [go_sem] <;> rfl) ?_
        refine Run.o1 (by simp only [go_sem, Int.toNat_zero, Nat.zero_mul, Int.toNat_one, Nat.one_mul, hbg, findV, hg, hbl, List.length_map] <;> rfl) ?_
        refine Run.nil ?_
        by_cases htw : (s.bs.take k).any (fun c => c.no == b.no) = true
        · skip
          obtain ⟨c, hcf⟩ : ∃ c, (s.bs.take k).find? (fun c => c.no == b.no) = some c := by
            cases hf : (s.bs.take k).find? (fun c => c.no == b.no) with
            | some c => exact ⟨c, rfl⟩
            | none =>
              have h1 := List.find?_eq_none.1 hf
              obtain ⟨c, h2, h3⟩ := List.any_eq_true.1 htw
              exact absurd h3 (h1 c h2)
          have hmg := map_get b.no (s.bs.take k)
          rw [hcf] at hmg
          simp only [Option.map_some] at hmg
          refine Exec.opk 14 ?_
          refine OpenK.o1 (by simp only [go_sem, Int.toNat_zero, Nat.zero_mul, Int.toNat_one, Nat.one_mul, hbg, findV, hg, hbl, List.length_map, hmg] <;> rfl) ?_
          refine OpenK.o1 (by simp only [go_sem, Int.toNat_zero, Nat.zero_mul, Int.toNat_one, Nat.one_mul, hbg, findV, hg, hbl, List.length_map, hmg] <;> rfl) ?_
          refine OpenK.o1 (by simp only [go_sem, Int.toNat_zero, Nat.zero_mul, Int.toNat_one, Nat.one_mul, hbg, findV, hg, hbl, List.length_map, hmg] <;> rfl) ?_
          refine OpenK.o1 (by simp only [go_sem, Int.toNat_zero, Nat.zero_mul, Int.toNat_one, Nat.one_mul, hbg, findV, hg, hbl, List.length_map, hmg] <;> rfl) ?_
          refine OpenK.o1 (by simp only [go_sem, Int.toNat_zero, Nat.zero_mul, Int.toNat_one, Nat.one_mul, hbg, findV, hg, hbl, List.length_map, hmg]; (try simp (disch := omega) only [if_pos]); (try simp only [go_sem, Int.toNat_zero, Nat.zero_mul, Int.toNat_one, Nat.one_mul, hbg, findV, hg, hbl, List.length_map, hmg])<;> rfl) ?_
          refine OpenK.o1 (by simp only [go_sem, Int.toNat_zero, Nat.zero_mul, Int.toNat_one, Nat.one_mul, hbg, findV, hg, hbl, List.length_map, hmg] <;> rfl) ?_
          refine OpenK.o1 (by simp only [go_sem, Int.toNat_zero, Nat.zero_mul, Int.toNat_one, Nat.one_mul, hbg, findV, hg, hbl, List.length_map, hmg] <;> rfl) ?_
          refine OpenK.o1 (by simp only [go_sem, Int.toNat_zero, Nat.zero_mul, Int.toNat_one, Nat.one_mul, hbg, findV, hg, hbl, List.length_map, hmg] <;> rfl) ?_
          refine OpenK.o1 (by simp only [go_sem, Int.toNat_zero, Nat.zero_mul, Int.toNat_one, Nat.one_mul, hbg, findV, hg, hbl, List.length_map, hmg] <;> rfl) ?_
          refine OpenK.o1 (by simp only [go_sem, Int.toNat_zero, Nat.zero_mul, Int.toNat_one, Nat.one_mul, hbg, findV, hg, hbl, List.length_map, hmg] <;> rfl) ?_
          refine OpenK.o1 (by simp only [go_sem, Int.toNat_zero, Nat.zero_mul, Int.toNat_one, Nat.one_mul, hbg, findV, hg, hbl, List.length_map, hmg] <;> rfl) ?_
          refine OpenK.o1 (by simp only [go_sem, Int.toNat_zero, Nat.zero_mul, Int.toNat_one, Nat.one_mul, hbg, findV, hg, hbl, List.length_map, hmg] <;> rfl) ?_
          refine OpenK.nil (OpenE.fin (by decide +kernel) (by decide +kernel) ?_)
          refine Exec.blk ?_
          refine Exec.reg ?_
          iterate 3 (refine Run.o1 (by simp only [go_sem, Int.toNat_zero, Nat.zero_mul, Int.toNat_one, Nat.one_mul, hbg, findV, hg, hbl, List.length_map, hmg] <;> rfl) ?_)
          refine Run.nil ?_
          refine Exec.cnd (by simp only [go_sem, Int.toNat_zero, Nat.zero_mul, Int.toNat_one, Nat.one_mul, hbg, findV, hg, hbl, List.length_map, hmg] <;> rfl) (fun hb38 => ?_) (fun hb38 => ?_)
          · exact absurd hb38 (by simp)
          · skip
            refine Exec.reg ?_
            iterate 2 (refine Run.o1 (by simp only [go_sem, Int.toNat_zero, Nat.zero_mul, Int.toNat_one, Nat.one_mul, hbg, findV, hg, hbl, List.length_map, hmg] <;> rfl) ?_)
            refine Run.nil ?_
            refine Exec.cnd (by simp only [go_sem, Int.toNat_zero, Nat.zero_mul, Int.toNat_one, Nat.one_mul, hbg, findV, hg, hbl, List.length_map, hmg] <;> rfl) (fun hb42 => ?_) (fun hb42 => ?_)
            · skip
              have hse : brErr s k = 5 := by unfold brErr; rw [hbe, hi]; simp only []; rw [if_pos htw]
              obtain ⟨hk1, hk2⟩ := brk_bad hX (by rw [hse]; decide) hlt
              rw [hse] at hk2
              refine Exec.reg ?_
              iterate 3 (refine Run.o1 (by simp only [go_sem, Int.toNat_zero, Nat.zero_mul, Int.toNat_one, Nat.one_mul, hbg, findV, hg, hbl, List.length_map, hmg, hk1, hk2] <;> rfl) ?_)
              refine Run.nil ?_
              refine BlkK.ret ?_
              refine BlkK.ret ?_
              refine ForK.ret ?_
              refine BlkK.ret ?_
              exact Ends.fin [902, 900, 10] (rs := [.tmp 2, .tmp 3]) rfl (by simp only [go_sem, Int.toNat_zero, Nat.zero_mul, Int.toNat_one, Nat.one_mul, hbg, findV, hg, hbl, List.length_map, hmg, hk1, hk2] <;> rfl) (by simp only [go_sem, Int.toNat_zero, Nat.zero_mul, Int.toNat_one, Nat.one_mul, hbg, findV, hg, hbl, List.length_map, hmg, hk1, hk2] <;> first | rfl | ((repeat' (first | with_reducible_and_instances rfl | refine st_eq ?_ ?_ ?_ | refine ret_eq ?_ | refine tup_eq ?_ | refine tm_eq ?_ ?_ | refine arr_eq ?_ | refine cells_eq ?_ | refine val_eq ?_ | refine ls_eq ?_ ?_ | refine own_eq ?_ ?_ | refine sl_eq ?_ | refine b_eq ?_ | (refine i_eq ?_; omega))); done))
            · exact absurd hb42 (by simp)
        · skip
          have htw : (s.bs.take k).any (fun c => c.no == b.no) = false := by simpa using htw
          have hcf : (s.bs.take k).find? (fun c => c.no == b.no) = none := find_never (k := (s.bs.take k).length) (by rw [List.take_length]; exact htw) (Nat.le_refl _)
          have hmg := map_get b.no (s.bs.take k)
          rw [hcf] at hmg
          simp only [Option.map_none] at hmg
          refine Exec.opk 14 ?_
          refine OpenK.o1 (by simp only [go_sem, Int.toNat_zero, Nat.zero_mul, Int.toNat_one, Nat.one_mul, hbg, findV, hg, hbl, List.length_map, hmg] <;> rfl) ?_
          refine OpenK.o1 (by simp only [go_sem, Int.toNat_zero, Nat.zero_mul, Int.toNat_one, Nat.one_mul, hbg, findV, hg, hbl, List.length_map, hmg] <;> rfl) ?_
          refine OpenK.o1 (by simp only [go_sem, Int.toNat_zero, Nat.zero_mul, Int.toNat_one, Nat.one_mul, hbg, findV, hg, hbl, List.length_map, hmg] <;> rfl) ?_
          refine OpenK.o1 (by simp only [go_sem, Int.toNat_zero, Nat.zero_mul, Int.toNat_one, Nat.one_mul, hbg, findV, hg, hbl, List.length_map, hmg] <;> rfl) ?_
          refine OpenK.o1 (by simp only [go_sem, Int.toNat_zero, Nat.zero_mul, Int.toNat_one, Nat.one_mul, hbg, findV, hg, hbl, List.length_map, hmg]; (try simp (disch := omega) only [if_pos]); (try simp only [go_sem, Int.toNat_zero, Nat.zero_mul, Int.toNat_one, Nat.one_mul, hbg, findV, hg, hbl, List.length_map, hmg])<;> rfl) ?_
          refine OpenK.o1 (by simp only [go_sem, Int.toNat_zero, Nat.zero_mul, Int.toNat_one, Nat.one_mul, hbg, findV, hg, hbl, List.length_map, hmg] <;> rfl) ?_
          refine OpenK.o1 (by simp only [go_sem, Int.toNat_zero, Nat.zero_mul, Int.toNat_one, Nat.one_mul, hbg, findV, hg, hbl, List.length_map, hmg] <;> rfl) ?_
          refine OpenK.o1 (by simp only [go_sem, Int.toNat_zero, Nat.zero_mul, Int.toNat_one, Nat.one_mul, hbg, findV, hg, hbl, List.length_map, hmg] <;> rfl) ?_
          refine OpenK.o1 (by simp only [go_sem, Int.toNat_zero, Nat.zero_mul, Int.toNat_one, Nat.one_mul, hbg, findV, hg, hbl, List.length_map, hmg] <;> rfl) ?_
          refine OpenK.o1 (by simp only [go_sem, Int.toNat_zero, Nat.zero_mul, Int.toNat_one, Nat.one_mul, hbg, findV, hg, hbl, List.length_map, hmg] <;> rfl) ?_
          refine OpenK.o1 (by simp only [go_sem, Int.toNat_zero, Nat.zero_mul, Int.toNat_one, Nat.one_mul, hbg, findV, hg, hbl, List.length_map, hmg] <;> rfl) ?_
          refine OpenK.o1 (by simp only [go_sem, Int.toNat_zero, Nat.zero_mul, Int.toNat_one, Nat.one_mul, hbg, findV, hg, hbl, List.length_map, hmg] <;> rfl) ?_
          refine OpenK.nil (OpenE.fin (by decide +kernel) (by decide +kernel) ?_)
          refine Exec.blk ?_
          refine Exec.reg ?_
          iterate 3 (refine Run.o1 (by simp only [go_sem, Int.toNat_zero, Nat.zero_mul, Int.toNat_one, Nat.one_mul, hbg, findV, hg, hbl, List.length_map, hmg] <;> rfl) ?_)
          refine Run.nil ?_
          refine Exec.cnd (by simp only [go_sem, Int.toNat_zero, Nat.zero_mul, Int.toNat_one, Nat.one_mul, hbg, findV, hg, hbl, List.length_map, hmg] <;> rfl) (fun hb38 => ?_) (fun hb38 => ?_)
          · exact absurd hb38 (by simp)
          · skip
            refine Exec.reg ?_
            iterate 2 (refine Run.o1 (by simp only [go_sem, Int.toNat_zero, Nat.zero_mul, Int.toNat_one, Nat.one_mul, hbg, findV, hg, hbl, List.length_map, hmg] <;> rfl) ?_)
            refine Run.nil ?_
            refine Exec.cnd (by simp only [go_sem, Int.toNat_zero, Nat.zero_mul, Int.toNat_one, Nat.one_mul, hbg, findV, hg, hbl, List.length_map, hmg] <;> rfl) (fun hb42 => ?_) (fun hb42 => ?_)
            · exact absurd hb42 (by simp)
            · skip
              refine Exec.opk 11 ?_
              refine OpenK.o1 (by simp only [go_sem, Int.toNat_zero, Nat.zero_mul, Int.toNat_one, Nat.one_mul, hbg, findV, hg, hbl, List.length_map, hmg]; (try simp (disch := omega) only [if_pos]); (try simp only [go_sem, Int.toNat_zero, Nat.zero_mul, Int.toNat_one, Nat.one_mul, hbg, findV, hg, hbl, List.length_map, hmg])<;> rfl) ?_
              refine OpenK.o1 (by simp only [go_sem, Int.toNat_zero, Nat.zero_mul, Int.toNat_one, Nat.one_mul, hbg, findV, hg, hbl, List.length_map, hmg] <;> rfl) ?_
              refine OpenK.o1 (by simp only [go_sem, Int.toNat_zero, Nat.zero_mul, Int.toNat_one, Nat.one_mul, hbg, findV, hg, hbl, List.length_map, hmg] <;> rfl) ?_
              refine OpenK.o1 (by simp only [go_sem, Int.toNat_zero, Nat.zero_mul, Int.toNat_one, Nat.one_mul, hbg, findV, hg, hbl, List.length_map, hmg] <;> rfl) ?_
              refine OpenK.o1 (by simp only [go_sem, Int.toNat_zero, Nat.zero_mul, Int.toNat_one, Nat.one_mul, hbg, findV, hg, hbl, List.length_map, hmg] <;> rfl) ?_
              refine OpenK.o1 (by simp only [go_sem, Int.toNat_zero, Nat.zero_mul, Int.toNat_one, Nat.one_mul, hbg, findV, hg, hbl, List.length_map, hmg] <;> rfl) ?_
              refine OpenK.o1 (by simp only [go_sem, Int.toNat_zero, Nat.zero_mul, Int.toNat_one, Nat.one_mul, hbg, findV, hg, hbl, List.length_map, hmg] <;> rfl) ?_
              refine OpenK.o1 (by simp only [go_sem, Int.toNat_zero, Nat.zero_mul, Int.toNat_one, Nat.one_mul, hbg, findV, hg, hbl, List.length_map, hmg] <;> rfl) ?_
              refine OpenK.o1 (by simp only [go_sem, Int.toNat_zero, Nat.zero_mul, Int.toNat_one, Nat.one_mul, hbg, findV, hg, hbl, List.length_map, hmg] <;> rfl) ?_
              refine OpenK.nil (OpenE.fin (by decide +kernel) (by decide +kernel) ?_)
              refine Exec.cnd (by simp only [go_sem, Int.toNat_zero, Nat.zero_mul, Int.toNat_one, Nat.one_mul, hbg, findV, hg, hbl, List.length_map, hmg] <;> rfl) (fun hb45 => ?_) (fun hb45 => ?_)
              · skip
                have hse : brErr s k = 7 := by unfold brErr; rw [hbe, hi]; simp only []; rw [if_neg (by rw [htw]; decide), if_pos (of_decide_eq_true hb45)]
                obtain ⟨hk1, hk2⟩ := brk_bad hX (by rw [hse]; decide) hlt
                rw [hse] at hk2
                refine Exec.reg ?_
                iterate 3 (refine Run.o1 (by simp only [go_sem, Int.toNat_zero, Nat.zero_mul, Int.toNat_one, Nat.one_mul, hbg, findV, hg, hbl, List.length_map, hmg, hk1, hk2] <;> rfl) ?_)
                refine Run.nil ?_
                refine BlkK.ret ?_
                refine BlkK.ret ?_
                refine ForK.ret ?_
                refine BlkK.ret ?_
                exact Ends.fin [902, 900, 10] (rs := [.tmp 2, .tmp 3]) rfl (by simp only [go_sem, Int.toNat_zero, Nat.zero_mul, Int.toNat_one, Nat.one_mul, hbg, findV, hg, hbl, List.length_map, hmg, hk1, hk2] <;> rfl) (by simp only [go_sem, Int.toNat_zero, Nat.zero_mul, Int.toNat_one, Nat.one_mul, hbg, findV, hg, hbl, List.length_map, hmg, hk1, hk2] <;> first | rfl | ((repeat' (first | with_reducible_and_instances rfl | refine st_eq ?_ ?_ ?_ | refine ret_eq ?_ | refine tup_eq ?_ | refine tm_eq ?_ ?_ | refine arr_eq ?_ | refine cells_eq ?_ | refine val_eq ?_ | refine ls_eq ?_ ?_ | refine own_eq ?_ ?_ | refine sl_eq ?_ | refine b_eq ?_ | (refine i_eq ?_; omega))); done))
              · skip
                have hse : brErr s k = 0 := by unfold brErr; rw [hbe, hi]; simp only []; rw [if_neg (by rw [htw]; decide), if_neg (of_decide_eq_false hb45)]
                have hms := map_set b.no b.day (s.bs.take k) htw
                have hsn : s.bs.take k ++ [Br.mk b.no b.day] = s.bs.take (k + 1) := (take_succ_of hbg).symm
                rw [hsn] at hms
                refine BlkK.nrm ?_
                refine Exec.opk1 11 ?_
                refine OpenK.o1 (by simp only [go_sem, Int.toNat_zero, Nat.zero_mul, Int.toNat_one, Nat.one_mul, hbg, findV, hg, hbl, List.length_map, hmg, hms] <;> rfl) ?_
                refine OpenK.o1 (by simp only [go_sem, Int.toNat_zero, Nat.zero_mul, Int.toNat_one, Nat.one_mul, hbg, findV, hg, hbl, List.length_map, hmg, hms] <;> rfl) ?_
                refine OpenK.o1 (by simp only [go_sem, Int.toNat_zero, Nat.zero_mul, Int.toNat_one, Nat.one_mul, hbg, findV, hg, hbl, List.length_map, hmg, hms] <;> rfl) ?_
                refine OpenK.o1 (by simp only [go_sem, Int.toNat_zero, Nat.zero_mul, Int.toNat_one, Nat.one_mul, hbg, findV, hg, hbl, List.length_map, hmg, hms] <;> rfl) ?_
                refine OpenK.o1 (by simp only [go_sem, Int.toNat_zero, Nat.zero_mul, Int.toNat_one, Nat.one_mul, hbg, findV, hg, hbl, List.length_map, hmg, hms]; (try simp (disch := omega) only [if_pos]); (try simp only [go_sem, Int.toNat_zero, Nat.zero_mul, Int.toNat_one, Nat.one_mul, hbg, findV, hg, hbl, List.length_map, hmg, hms])<;> rfl) ?_
                refine OpenK.o1 (by simp only [go_sem, Int.toNat_zero, Nat.zero_mul, Int.toNat_one, Nat.one_mul, hbg, findV, hg, hbl, List.length_map, hmg, hms] <;> rfl) ?_
                refine OpenK.o1 (by simp only [go_sem, Int.toNat_zero, Nat.zero_mul, Int.toNat_one, Nat.one_mul, hbg, findV, hg, hbl, List.length_map, hmg, hms]; (try simp (disch := omega) only [if_pos]); (try simp only [go_sem, Int.toNat_zero, Nat.zero_mul, Int.toNat_one, Nat.one_mul, hbg, findV, hg, hbl, List.length_map, hmg, hms])<;> rfl) ?_
                refine OpenK.o1 (by simp only [go_sem, Int.toNat_zero, Nat.zero_mul, Int.toNat_one, Nat.one_mul, hbg, findV, hg, hbl, List.length_map, hmg, hms] <;> rfl) ?_
                refine OpenK.o1 (by simp only [go_sem, Int.toNat_zero, Nat.zero_mul, Int.toNat_one, Nat.one_mul, hbg, findV, hg, hbl, List.length_map, hmg, hms] <;> rfl) ?_
                refine OpenK.nil (OpenE.fin (by decide +kernel) (by decide +kernel) ?_)
                refine BlkK.nrm ?_
                refine Exec.reg1 ?_
                refine Run.o1 (by simp only [go_sem, Int.toNat_zero, Nat.zero_mul, Int.toNat_one, Nat.one_mul, hbg, findV, hg, hbl, List.length_map, hmg, hms]; (try simp (disch := omega) only [IntWalk.i64_in, IntWalk.u64_in, if_neg, if_pos])<;> rfl) ?_
                refine Run.o1 (by simp only [go_sem, Int.toNat_zero, Nat.zero_mul, Int.toNat_one, Nat.one_mul, hbg, findV, hg, hbl, List.length_map, hmg, hms] <;> rfl) ?_
                refine Run.nil ?_
                refine ForK.nxt ?_ ?_ ?_
                · omega
                · exact Ghost.kp [0, 17, 18, 19] [902, 900, 10] (by simp only [go_sem, Int.toNat_zero, Nat.zero_mul, Int.toNat_one, Nat.one_mul, hbg, findV, hg, hbl, List.length_map, hmg, hms]; first | ((repeat' (first | with_reducible_and_instances rfl | refine st_eq ?_ ?_ ?_ | refine ret_eq ?_ | refine tup_eq ?_ | refine tm_eq ?_ ?_ | refine arr_eq ?_ | refine cells_eq ?_ | refine val_eq ?_ | refine ls_eq ?_ ?_ | refine own_eq ?_ ?_ | refine sl_eq ?_ | refine b_eq ?_ | (refine i_eq ?_; omega))); done) | rfl)
                · exact fun j hj => if e : j = k then e ▸ hse else hX j (by omega)
    · skip
      have hke : k = s.bs.length := by have := ge_of_dec hb20; omega
      subst hke
      obtain ⟨hk1, hk2⟩ := brk_good (s := s) hX
      refine Exec.exitS ?_
      refine ForK.ext ?_
      refine BlkK.hit ?_
      refine Exec.reg ?_
      iterate 2 (refine Run.o1 (by simp only [go_sem, Int.toNat_zero, Nat.zero_mul, Int.toNat_one, Nat.one_mul, hk1, hk2] <;> rfl) ?_)
      refine Run.nil ?_
      exact Ends.fin [902, 900, 10] (rs := [.tmp 2, .tmp 3]) rfl (by simp only [go_sem, Int.toNat_zero, Nat.zero_mul, Int.toNat_one, Nat.one_mul, hk1, hk2] <;> rfl) (by simp only [go_sem, Int.toNat_zero, Nat.zero_mul, Int.toNat_one, Nat.one_mul, hk1, hk2] <;> first | rfl | ((repeat' (first | with_reducible_and_instances rfl | refine st_eq ?_ ?_ ?_ | refine ret_eq ?_ | refine tup_eq ?_ | refine tm_eq ?_ ?_ | refine arr_eq ?_ | refine cells_eq ?_ | refine val_eq ?_ | refine ls_eq ?_ ?_ | refine own_eq ?_ ?_ | refine sl_eq ?_ | refine b_eq ?_ | (refine i_eq ?_; omega))); done))

end Go.Mw
namespace Go.Mw
open Go.Proofs
open Go.Te
theorem row_err {s : Stk} (h : stockB s = true) (h1 : (rowR s).2 ≠ 0) : termsR s = ([], (rowR s).1, (rowR s).2) := by
  unfold rowR at *
  cases hf : firstE (rowErr s) s.rs.length with
  | none => rw [hf] at h1; exact absurd rfl h1
  | some k => exact terms_row h hf
theorem row_ok {s : Stk} (h1 : (rowR s).2 = 0) : firstE (rowErr s) s.rs.length = none ∧ rowK s = s.rs.length := by
  unfold rowR rowK at *
  cases hf : firstE (rowErr s) s.rs.length with
  | none => exact ⟨rfl, rfl⟩
  | some k => rw [hf] at h1; exact absurd h1 (show ¬(5:Int) = 0 from by decide)
theorem brk_err {s : Stk} (h : stockB s = true) (h0 : firstE (rowErr s) s.rs.length = none) (h1 : (brkR s).2 ≠ 0) : termsR s = ([], (brkR s).1, (brkR s).2) := by
  unfold brkR at *
  cases hf : firstE (brErr s) s.bs.length with
  | none => rw [hf] at h1; exact absurd rfl h1
  | some k => exact terms_brk h h0 hf
theorem brk_ok {s : Stk} (h1 : (brkR s).2 = 0) : firstE (brErr s) s.bs.length = none ∧ brkK s = s.bs.length := by
  unfold brkR brkK at *
  cases hf : firstE (brErr s) s.bs.length with
  | none => exact ⟨rfl, rfl⟩
  | some k => rw [hf] at h1; exact absurd h1 (firstE_get hf).2.1
theorem prf_err {s : Stk} (h : stockB s = true) (h0 : firstE (rowErr s) s.rs.length = none) (h1 : firstE (brErr s) s.bs.length = none) (h2 : (prfR s).2 ≠ 0) : termsR s = ([], (prfR s).1, (prfR s).2) := by
  unfold prfR at *
  cases hf : firstE (prErr s) s.ps.length with
  | none => rw [hf] at h2; exact absurd rfl h2
  | some k => exact terms_prf h h0 h1 hf
theorem prf_ok {s : Stk} (h1 : (prfR s).2 = 0) : firstE (prErr s) s.ps.length = none ∧ prfK s = s.ps.length := by
  unfold prfR prfK at *
  cases hf : firstE (prErr s) s.ps.length with
  | none => exact ⟨rfl, rfl⟩
  | some k => rw [hf] at h1; exact absurd h1 (firstE_get hf).2.1
abbrev storeG (s : Stk) : List FL := [.d (csD s.cs), .d (slsD s.rs), .d (psD s.ps), .d (bsD s.bs), .own 1000 0 s.rs.length s.rs.length, .obj 28010]
def openV (s : Stk) : AV := if (termsR s).2.2 = 0 then .tup [(false, [.fpt (storeG s)]), (false, [.d (.i 0)]), (false, [.d (.i 0)])] else .tup [(false, [.d (.raw (.pointer none))]), (false, [.d (.i (termsR s).2.1)]), (false, [.d (.i (termsR s).2.2)])]
def openO (s : Stk) : List (Nat × AO) := if (termsR s).2.2 = 0 then [(1000, .arr 70 6 ((rws s (termsR s).1).map encRow)), (28010, bkM s.bs)] else []
theorem open_bad {s : Stk} {l : List (Int × Int)} {i e : Int} (h : termsR s = (l, i, e)) (he : e ≠ 0) : openV s = .tup [(false, [.d (.raw (.pointer none))]), (false, [.d (.i i)]), (false, [.d (.i e)])] ∧ openO s = [] := by
  unfold openV openO
  rw [h]
  exact ⟨if_neg he, if_neg he⟩
theorem open_good {s : Stk} (h : (termsR s).2.2 = 0) : openV s = .tup [(false, [.fpt (storeG s)]), (false, [.d (.i 0)]), (false, [.d (.i 0)])] ∧ openO s = [(1000, .arr 70 6 ((rws s (termsR s).1).map encRow)), (28010, bkM s.bs)] := ⟨if_pos h, if_pos h⟩
set_option maxRecDepth 60000 in
set_option maxHeartbeats 16000000 in
/-- meterworks/term.open -/
theorem c_open (s : Stk) (h : Small s) : Con Try.prog 24 [stkV s] [] (.ret (openV s) (openO s)) := by
  refine con_of follows_mixed Try.func24 rfl (by simp only [List.length_cons, List.length_nil, Try.ntmps24]; omega) (by kernel_rfl) rfl ?_
  refine Exec.reg ?_
  iterate 4 (refine Run.o ?_)
  refine Run.nil ?_
  refine Exec.assocS ?_
  refine Exec.reg ?_
  refine Run.o ?_
  refine Run.c1 (c_term_isStock s h) (by simp only [go_sem] <;> rfl) (by simp only [go_sem] <;> rfl) ?_
  refine Run.o ?_
  refine Run.nil ?_
  refine Exec.cndS (by simp only [go_sem] <;> rfl) (fun hb9 => ?_) (fun hb9 => ?_)
  · skip
    have hsb : stockB s = false := by simpa using hb9
    obtain ⟨hov, hoo⟩ := open_bad (terms_bad hsb) (by decide)
    refine Exec.assocS ?_
    refine Exec.reg ?_
    iterate 3 (refine Run.o ?_)
    refine Run.nil ?_
    refine Exec.retS ?_
    first
    | (refine Ends.fin [1000, 28010] (rs := [.tmp 2, .tmp 3, .tmp 4]) rfl (by simp only [go_sem, hov, hoo] <;> rfl) ?_; simp only [go_sem, hov, hoo] <;> first | rfl | ((repeat' (first | with_reducible_and_instances rfl | refine st_eq ?_ ?_ ?_ | refine ret_eq ?_ | refine tup_eq ?_ | refine tm_eq ?_ ?_ | refine arr_eq ?_ | refine cells_eq ?_ | refine val_eq ?_ | refine ls_eq ?_ ?_ | refine own_eq ?_ ?_ | refine sl_eq ?_ | refine b_eq ?_ | (refine i_eq ?_; omega))); done; done))
    | (refine Ends.fin [] (rs := [.tmp 2, .tmp 3, .tmp 4]) rfl (by simp only [go_sem, hov, hoo] <;> rfl) ?_; simp only [go_sem, hov, hoo] <;> first | rfl | ((repeat' (first | with_reducible_and_instances rfl | refine st_eq ?_ ?_ ?_ | refine ret_eq ?_ | refine tup_eq ?_ | refine tm_eq ?_ ?_ | refine arr_eq ?_ | refine cells_eq ?_ | refine val_eq ?_ | refine ls_eq ?_ ?_ | refine own_eq ?_ ?_ | refine sl_eq ?_ | refine b_eq ?_ | (refine i_eq ?_; omega))); done; done))
  have hsb : stockB s = true := by simpa using hb9
  have v := stock_val hsb
  refine Exec.skipS ?_
  refine Exec.reg ?_
  iterate 4 (refine Run.o ?_)
  refine Run.nil ?_
  refine Exec.assocS ?_
  refine Exec.reg ?_
  iterate 9 (refine Run.o ?_)
  refine Run.nilC 12 4 1000 70 6 (by simp only [go_sem] <;> rfl) (by rfl) (by simp only [go_sem] <;> rfl) (by omega) (by omega) (by simp only [go_sem] <;> rfl) ?_
  refine Run.nil ?_
  refine Exec.blk ?_
  refine Exec.for (3) (fun k => if k = 0 then (⟨[(2, .leaf (.ptr 12 0)), (19, .leaf (.csl 19 0 3)), (20, .int 3), (21, .int ((0 : Nat) : Int))], [(12, .cells [.d (csD s.cs), .d (slsD s.rs), .d (psD s.ps), .d (bsD s.bs), .own 1000 0 0 0, .d (.raw (.map none))]), (1000, .arr 70 6 (([]).map encRow)), (14, .mth 37 [.ptr 12 0]), (16, .mth 38 [.ptr 12 0]), (18, .mth 39 [.ptr 12 0]), (19, .cells [.obj 14, .obj 16, .obj 18])], (.ret (openV s) (openO s))⟩ : ASt) else if k = 1 then ⟨[(2, .leaf (.ptr 12 0)), (19, .leaf (.csl 19 0 3)), (20, .int 3), (21, .int ((1 : Nat) : Int))], [(12, .cells [.d (csD s.cs), .d (slsD s.rs), .d (psD s.ps), .d (bsD s.bs), .own 1000 0 s.rs.length s.rs.length, .d (.raw (.map none))]), (1000, .arr 70 6 ((rowB s).map encRow)), (14, .mth 37 [.ptr 12 0]), (16, .mth 38 [.ptr 12 0]), (18, .mth 39 [.ptr 12 0]), (19, .cells [.obj 14, .obj 16, .obj 18])], (.ret (openV s) (openO s))⟩ else if k = 2 then ⟨[(2, .leaf (.fpt (storeG s))), (19, .leaf (.csl 19 0 3)), (20, .int 3), (21, .int ((2 : Nat) : Int))], [(1000, .arr 70 6 ((rowB s).map encRow)), (28010, bkM s.bs), (14, .mth 37 [.fpt (storeG s)]), (16, .mth 38 [.fpt (storeG s)]), (18, .mth 39 [.fpt (storeG s)]), (19, .cells [.obj 14, .obj 16, .obj 18])], (.ret (openV s) (openO s))⟩ else ⟨[(2, .leaf (.fpt (storeG s))), (19, .leaf (.csl 19 0 3)), (20, .int 3), (21, .int ((3 : Nat) : Int))], [(1000, .arr 70 6 ((rws s (stAt s s.ps.length)).map encRow)), (28010, bkM s.bs), (14, .mth 37 [.fpt (storeG s)]), (16, .mth 38 [.fpt (storeG s)]), (18, .mth 39 [.fpt (storeG s)]), (19, .cells [.obj 14, .obj 16, .obj 18])], (.ret (openV s) (openO s))⟩) (fun k => (1 ≤ k → firstE (rowErr s) s.rs.length = none) ∧ (2 ≤ k → firstE (brErr s) s.bs.length = none) ∧ (3 ≤ k → firstE (prErr s) s.ps.length = none)) ?_ ?_ (fun k hk hX => ?_)
  · exact Ghost.kp [2, 19, 20, 21] [12, 1000, 14, 16, 18, 19] (by simp only [go_sem]; first | ((repeat' (first | with_reducible_and_instances rfl | refine st_eq ?_ ?_ ?_ | refine ret_eq ?_ | refine tup_eq ?_ | refine tm_eq ?_ ?_ | refine arr_eq ?_ | refine cells_eq ?_ | refine val_eq ?_ | refine ls_eq ?_ ?_ | refine own_eq ?_ ?_ | refine sl_eq ?_ | refine b_eq ?_ | (refine i_eq ?_; omega))); done) | rfl)
  · exact ⟨fun h => absurd h (by decide), fun h => absurd h (by decide), fun h => absurd h (by decide)⟩
  by_cases hk0 : k = 0
  · skip
    subst hk0
    rw [if_pos rfl]
    refine Exec.reg ?_
    refine Run.o1 (by simp only [go_sem, Int.toNat_natCast] <;> rfl) ?_
    refine Run.nil ?_
    refine Exec.cndS (by simp only [go_sem, Int.toNat_natCast] <;> rfl) (fun hb22 => ?_) (fun hb22 => ?_)
    · skip
      refine Exec.skipS ?_
      refine Exec.blk ?_
      refine Exec.reg ?_
      refine Run.o1 (by simp only [go_sem, Int.toNat_natCast]; (try simp (disch := omega) only [if_pos]); (try simp only [go_sem, Int.toNat_natCast])<;> rfl) ?_
      refine Run.o1 (by simp only [go_sem, Int.toNat_natCast] <;> rfl) ?_
      refine Run.o ?_
      refine Run.nil ?_
      refine Exec.reg ?_
      refine Run.o ?_
      refine Run.lendM [(902, 12), (900, 1000)] (c_checkRows s v) (by simp only [go_sem]) (by simp only [go_sem] <;> rfl) (by simp only [go_sem] <;> rfl) (by simp only [go_sem] <;> rfl) (by exact ⟨by first | exact WkR.pure rfl | exact WkR.of rfl rfl | exact WkR.nil _ | exact WkR.int (by first | omega | (simp; done) | (simp; omega)) | exact WkR.fptW rfl ⟨by first | exact .inl rfl | exact .inr rfl, by first | exact .inl rfl | exact .inr rfl, by first | exact .inl rfl | exact .inr rfl, by first | exact .inl rfl | exact .inr rfl, by first | exact .inl rfl | exact .inr rfl, by first | exact .inl rfl | exact .inr rfl, trivial⟩, trivial⟩) rfl (by decide) (by first | rfl | (simp only [List.all_cons, List.all_nil, inn_bk, Bool.and_true, Bool.true_and]; done) | (simp only [List.all_cons, List.all_nil, inn_bk, Bool.and_true, Bool.true_and] <;> rfl)) (by intro p hp n hn; simp only [List.mem_cons, List.not_mem_nil, or_false] at hp; rcases hp with rfl | rfl <;> (simp [look] at hn; subst hn; simp only [go_sem] <;> rfl)) (by intro p hp; simp only [List.mem_cons, List.not_mem_nil, or_false] at hp; rcases hp with rfl | rfl <;> (first | exact ⟨_, rfl, back_refl _⟩ | exact ⟨_, rfl, _, rfl, by simp⟩ | exact ⟨_, rfl, _, rfl⟩)) (by intro p hp hn; simp only [List.mem_cons, List.not_mem_nil, or_false] at hp; rcases hp with rfl | rfl <;> simp [look] at hn) (by simp only [go_sem] <;> rfl) ?_
      refine Run.o ?_
      iterate 2 (refine Run.o1 (by simp only [go_sem, Int.toNat_natCast] <;> rfl) ?_)
      iterate 2 (refine Run.o ?_)
      refine Run.nil ?_
      refine Exec.reg ?_
      refine Run.o ?_
      refine Run.o1 (by simp only [go_sem, Int.toNat_natCast] <;> rfl) ?_
      refine Run.nil ?_
      refine Exec.cnd (by simp only [go_sem, Int.toNat_natCast] <;> rfl) (fun hb31 => ?_) (fun hb31 => ?_)
      · skip
        have hne : (rowR s).2 ≠ 0 := by simpa using hb31
        obtain ⟨hov, hoo⟩ := open_bad (row_err hsb hne) hne
        refine Exec.reg ?_
        iterate 5 (refine Run.o ?_)
        refine Run.nil ?_
        refine BlkK.ret ?_
        refine ForK.ret ?_
        refine BlkK.ret ?_
        first
        | (refine Ends.fin [1000, 28010] (rs := [.tmp 2, .tmp 3, .tmp 4]) rfl (by simp only [go_sem, Int.toNat_natCast, hov, hoo] <;> rfl) ?_; simp only [go_sem, Int.toNat_natCast, hov, hoo] <;> first | rfl | ((repeat' (first | with_reducible_and_instances rfl | refine st_eq ?_ ?_ ?_ | refine ret_eq ?_ | refine tup_eq ?_ | refine tm_eq ?_ ?_ | refine arr_eq ?_ | refine cells_eq ?_ | refine val_eq ?_ | refine ls_eq ?_ ?_ | refine own_eq ?_ ?_ | refine sl_eq ?_ | refine b_eq ?_ | (refine i_eq ?_; omega))); done; done))
        | (refine Ends.fin [] (rs := [.tmp 2, .tmp 3, .tmp 4]) rfl (by simp only [go_sem, Int.toNat_natCast, hov, hoo] <;> rfl) ?_; simp only [go_sem, Int.toNat_natCast, hov, hoo] <;> first | rfl | ((repeat' (first | with_reducible_and_instances rfl | refine st_eq ?_ ?_ ?_ | refine ret_eq ?_ | refine tup_eq ?_ | refine tm_eq ?_ ?_ | refine arr_eq ?_ | refine cells_eq ?_ | refine val_eq ?_ | refine ls_eq ?_ ?_ | refine own_eq ?_ ?_ | refine sl_eq ?_ | refine b_eq ?_ | (refine i_eq ?_; omega))); done; done))
      have hz : (rowR s).2 = 0 := by simpa using hb31
      obtain ⟨g1, hrk⟩ := row_ok hz
      have htk : (rowB s).take s.rs.length = rowB s := List.take_of_length_le (by rw [rowB_len]; exact Nat.le_refl _)
      have g2 : 2 ≤ 0 + 1 → firstE (brErr s) s.bs.length = none := fun h => absurd h (by decide)
      have g3 : 3 ≤ 0 + 1 → firstE (prErr s) s.ps.length = none := fun h => absurd h (by decide)
      refine BlkK.nrm ?_
      refine Exec.reg1 ?_
      refine Run.o1 (by simp only [go_sem, Int.toNat_natCast]; (try simp (disch := omega) only [IntWalk.i64_in, IntWalk.u64_in, if_neg, if_pos])<;> rfl) ?_
      refine Run.o ?_
      refine Run.nil ?_
      refine ForK.nxt ?_ ?_ ?_
      · omega
      · exact Ghost.kp [2, 19, 20, 21] [12, 1000, 14, 16, 18, 19] (by simp only [go_sem, hrk, htk]; first | ((repeat' (first | with_reducible_and_instances rfl | refine st_eq ?_ ?_ ?_ | refine ret_eq ?_ | refine tup_eq ?_ | refine tm_eq ?_ ?_ | refine arr_eq ?_ | refine cells_eq ?_ | refine val_eq ?_ | refine ls_eq ?_ ?_ | refine own_eq ?_ ?_ | refine sl_eq ?_ | refine b_eq ?_ | (refine i_eq ?_; omega))); done) | rfl)
      · exact ⟨fun _ => g1, g2, g3⟩
    · exact absurd hb22 (by simp)
  by_cases hk1 : k = 1
  · skip
    subst hk1
    have g1 := hX.1 (by decide)
    rw [if_neg (by decide), if_pos rfl]
    refine Exec.reg ?_
    refine Run.o1 (by simp only [go_sem, Int.toNat_natCast] <;> rfl) ?_
    refine Run.nil ?_
    refine Exec.cndS (by simp only [go_sem, Int.toNat_natCast] <;> rfl) (fun hb22 => ?_) (fun hb22 => ?_)
    · skip
      refine Exec.skipS ?_
      refine Exec.blk ?_
      refine Exec.reg ?_
      refine Run.o1 (by simp only [go_sem, Int.toNat_natCast]; (try simp (disch := omega) only [if_pos]); (try simp only [go_sem, Int.toNat_natCast])<;> rfl) ?_
      refine Run.o1 (by simp only [go_sem, Int.toNat_natCast] <;> rfl) ?_
      refine Run.o ?_
      refine Run.nil ?_
      refine Exec.reg ?_
      refine Run.o ?_
      refine Run.lendM [(902, 12), (900, 1000)] (c_checkBroken s v) (by simp only [go_sem]) (by simp only [go_sem] <;> rfl) (by simp only [go_sem] <;> rfl) (by simp only [go_sem] <;> rfl) (by exact ⟨by first | exact WkR.pure rfl | exact WkR.of rfl rfl | exact WkR.nil _ | exact WkR.int (by first | omega | (simp; done) | (simp; omega)) | exact WkR.fptW rfl ⟨by first | exact .inl rfl | exact .inr rfl, by first | exact .inl rfl | exact .inr rfl, by first | exact .inl rfl | exact .inr rfl, by first | exact .inl rfl | exact .inr rfl, by first | exact .inl rfl | exact .inr rfl, by first | exact .inl rfl | exact .inr rfl, trivial⟩, trivial⟩) rfl (by decide) (by first | rfl | (simp only [List.all_cons, List.all_nil, inn_bk, Bool.and_true, Bool.true_and]; done) | (simp only [List.all_cons, List.all_nil, inn_bk, Bool.and_true, Bool.true_and] <;> rfl)) (by intro p hp n hn; simp only [List.mem_cons, List.not_mem_nil, or_false] at hp; rcases hp with rfl | rfl <;> (simp [look] at hn; subst hn; simp only [go_sem] <;> rfl)) (by intro p hp; simp only [List.mem_cons, List.not_mem_nil, or_false] at hp; rcases hp with rfl | rfl <;> (first | exact ⟨_, rfl, back_refl _⟩ | exact ⟨_, rfl, _, rfl, by simp⟩ | exact ⟨_, rfl, _, rfl⟩)) (by intro p hp hn; simp only [List.mem_cons, List.not_mem_nil, or_false] at hp; rcases hp with rfl | rfl | rfl <;> first | (simp [look] at hn; done) | (simp only [go_sem] <;> rfl)) (by simp only [go_sem] <;> rfl) ?_
      refine Run.o ?_
      iterate 2 (refine Run.o1 (by simp only [go_sem, Int.toNat_natCast] <;> rfl) ?_)
      iterate 2 (refine Run.o ?_)
      refine Run.nil ?_
      refine Exec.reg ?_
      refine Run.o ?_
      refine Run.o1 (by simp only [go_sem, Int.toNat_natCast] <;> rfl) ?_
      refine Run.nil ?_
      refine Exec.cnd (by simp only [go_sem, Int.toNat_natCast] <;> rfl) (fun hb31 => ?_) (fun hb31 => ?_)
      · skip
        have hne : (brkR s).2 ≠ 0 := by simpa using hb31
        obtain ⟨hov, hoo⟩ := open_bad (brk_err hsb g1 hne) hne
        refine Exec.reg ?_
        iterate 5 (refine Run.o ?_)
        refine Run.nil ?_
        refine BlkK.ret ?_
        refine ForK.ret ?_
        refine BlkK.ret ?_
        first
        | (refine Ends.fin [1000, 28010] (rs := [.tmp 2, .tmp 3, .tmp 4]) rfl (by simp only [go_sem, Int.toNat_natCast, hov, hoo] <;> rfl) ?_; simp only [go_sem, Int.toNat_natCast, hov, hoo] <;> first | rfl | ((repeat' (first | with_reducible_and_instances rfl | refine st_eq ?_ ?_ ?_ | refine ret_eq ?_ | refine tup_eq ?_ | refine tm_eq ?_ ?_ | refine arr_eq ?_ | refine cells_eq ?_ | refine val_eq ?_ | refine ls_eq ?_ ?_ | refine own_eq ?_ ?_ | refine sl_eq ?_ | refine b_eq ?_ | (refine i_eq ?_; omega))); done; done))
        | (refine Ends.fin [] (rs := [.tmp 2, .tmp 3, .tmp 4]) rfl (by simp only [go_sem, Int.toNat_natCast, hov, hoo] <;> rfl) ?_; simp only [go_sem, Int.toNat_natCast, hov, hoo] <;> first | rfl | ((repeat' (first | with_reducible_and_instances rfl | refine st_eq ?_ ?_ ?_ | refine ret_eq ?_ | refine tup_eq ?_ | refine tm_eq ?_ ?_ | refine arr_eq ?_ | refine cells_eq ?_ | refine val_eq ?_ | refine ls_eq ?_ ?_ | refine own_eq ?_ ?_ | refine sl_eq ?_ | refine b_eq ?_ | (refine i_eq ?_; omega))); done; done))
      have hz : (brkR s).2 = 0 := by simpa using hb31
      obtain ⟨g2, hbk⟩ := brk_ok hz
      have htk : s.bs.take (brkK s) = s.bs := List.take_of_length_le (by rw [hbk]; exact Nat.le_refl _)
      have g2 : 2 ≤ 1 + 1 → firstE (brErr s) s.bs.length = none := fun _ => g2
      have g3 : 3 ≤ 1 + 1 → firstE (prErr s) s.ps.length = none := fun h => absurd h (by decide)
      refine BlkK.nrm ?_
      refine Exec.reg1 ?_
      refine Run.o1 (by simp only [go_sem, Int.toNat_natCast]; (try simp (disch := omega) only [IntWalk.i64_in, IntWalk.u64_in, if_neg, if_pos])<;> rfl) ?_
      refine Run.o ?_
      refine Run.nil ?_
      refine ForK.nxt ?_ ?_ ?_
      · omega
      · exact Ghost.trans (Ghost.frp _ 12) (Ghost.kp [2, 19, 20, 21] [1000, 28010, 14, 16, 18, 19] (by simp only [go_sem, htk]; first | ((repeat' (first | with_reducible_and_instances rfl | refine st_eq ?_ ?_ ?_ | refine ret_eq ?_ | refine tup_eq ?_ | refine tm_eq ?_ ?_ | refine arr_eq ?_ | refine cells_eq ?_ | refine val_eq ?_ | refine ls_eq ?_ ?_ | refine own_eq ?_ ?_ | refine sl_eq ?_ | refine b_eq ?_ | (refine i_eq ?_; omega))); done) | rfl))
      · exact ⟨fun _ => g1, g2, g3⟩
    · exact absurd hb22 (by simp)
  by_cases hk2 : k = 2
  · skip
    subst hk2
    have g1 := hX.1 (by decide)
    have g2 := hX.2.1 (by decide)
    have hpk : prfK s ≤ s.ps.length := by
      unfold prfK
      cases hf : firstE (prErr s) s.ps.length with
      | none => exact Nat.le_refl _
      | some q => exact Nat.le_of_lt (firstE_get hf).1
    rw [if_neg (by decide), if_neg (by decide), if_pos rfl]
    refine Exec.reg ?_
    refine Run.o1 (by simp only [go_sem, Int.toNat_natCast] <;> rfl) ?_
    refine Run.nil ?_
    refine Exec.cndS (by simp only [go_sem, Int.toNat_natCast] <;> rfl) (fun hb22 => ?_) (fun hb22 => ?_)
    · skip
      refine Exec.skipS ?_
      refine Exec.blk ?_
      refine Exec.reg ?_
      refine Run.o1 (by simp only [go_sem, Int.toNat_natCast]; (try simp (disch := omega) only [if_pos]); (try simp only [go_sem, Int.toNat_natCast])<;> rfl) ?_
      refine Run.o1 (by simp only [go_sem, Int.toNat_natCast] <;> rfl) ?_
      refine Run.o ?_
      refine Run.nil ?_
      refine Exec.reg ?_
      refine Run.o ?_
      refine Run.lendM [(900, 1000), (901, 28010)] (c_checkProofs s v) (by simp only [go_sem]) (by simp only [go_sem] <;> rfl) (by simp only [go_sem] <;> rfl) (by simp only [go_sem] <;> rfl) (by exact ⟨by first | exact WkR.pure rfl | exact WkR.of rfl rfl | exact WkR.nil _ | exact WkR.int (by first | omega | (simp; done) | (simp; omega)) | exact WkR.fptW rfl ⟨by first | exact .inl rfl | exact .inr rfl, by first | exact .inl rfl | exact .inr rfl, by first | exact .inl rfl | exact .inr rfl, by first | exact .inl rfl | exact .inr rfl, by first | exact .inl rfl | exact .inr rfl, by first | exact .inl rfl | exact .inr rfl, trivial⟩, trivial⟩) rfl (by decide) (by first | rfl | (simp only [List.all_cons, List.all_nil, inn_bk, Bool.and_true, Bool.true_and]; done) | (simp only [List.all_cons, List.all_nil, inn_bk, Bool.and_true, Bool.true_and] <;> rfl)) (by intro p hp n hn; simp only [List.mem_cons, List.not_mem_nil, or_false] at hp; rcases hp with rfl | rfl <;> (simp [look] at hn; subst hn; simp only [go_sem] <;> rfl)) (by intro p hp; simp only [List.mem_cons, List.not_mem_nil, or_false] at hp; rcases hp with rfl | rfl <;> (first | exact ⟨_, rfl, back_refl _⟩ | exact ⟨_, rfl, _, rfl, by rw [List.length_map, List.length_map, rws_len (by simp [begins]), rws_len (tmb_st v _ hpk).len]; exact Nat.le_refl _⟩)) (by intro p hp hn; simp only [List.mem_cons, List.not_mem_nil, or_false] at hp; rcases hp with rfl | rfl <;> simp [look] at hn) (by simp only [go_sem] <;> rfl) ?_
      refine Run.o ?_
      iterate 2 (refine Run.o1 (by simp only [go_sem, Int.toNat_natCast] <;> rfl) ?_)
      iterate 2 (refine Run.o ?_)
      refine Run.nil ?_
      refine Exec.reg ?_
      refine Run.o ?_
      refine Run.o1 (by simp only [go_sem, Int.toNat_natCast] <;> rfl) ?_
      refine Run.nil ?_
      refine Exec.cnd (by simp only [go_sem, Int.toNat_natCast] <;> rfl) (fun hb31 => ?_) (fun hb31 => ?_)
      · skip
        have hne : (prfR s).2 ≠ 0 := by simpa using hb31
        obtain ⟨hov, hoo⟩ := open_bad (prf_err hsb g1 g2 hne) hne
        refine Exec.reg ?_
        iterate 5 (refine Run.o ?_)
        refine Run.nil ?_
        refine BlkK.ret ?_
        refine ForK.ret ?_
        refine BlkK.ret ?_
        first
        | (refine Ends.fin [1000, 28010] (rs := [.tmp 2, .tmp 3, .tmp 4]) rfl (by simp only [go_sem, Int.toNat_natCast, hov, hoo] <;> rfl) ?_; simp only [go_sem, Int.toNat_natCast, hov, hoo] <;> first | rfl | ((repeat' (first | with_reducible_and_instances rfl | refine st_eq ?_ ?_ ?_ | refine ret_eq ?_ | refine tup_eq ?_ | refine tm_eq ?_ ?_ | refine arr_eq ?_ | refine cells_eq ?_ | refine val_eq ?_ | refine ls_eq ?_ ?_ | refine own_eq ?_ ?_ | refine sl_eq ?_ | refine b_eq ?_ | (refine i_eq ?_; omega))); done; done))
        | (refine Ends.fin [] (rs := [.tmp 2, .tmp 3, .tmp 4]) rfl (by simp only [go_sem, Int.toNat_natCast, hov, hoo] <;> rfl) ?_; simp only [go_sem, Int.toNat_natCast, hov, hoo] <;> first | rfl | ((repeat' (first | with_reducible_and_instances rfl | refine st_eq ?_ ?_ ?_ | refine ret_eq ?_ | refine tup_eq ?_ | refine tm_eq ?_ ?_ | refine arr_eq ?_ | refine cells_eq ?_ | refine val_eq ?_ | refine ls_eq ?_ ?_ | refine own_eq ?_ ?_ | refine sl_eq ?_ | refine b_eq ?_ | (refine i_eq ?_; omega))); done; done))
      have hz : (prfR s).2 = 0 := by simpa using hb31
      obtain ⟨g3, hpk2⟩ := prf_ok hz
      have g2 : 2 ≤ 2 + 1 → firstE (brErr s) s.bs.length = none := fun _ => g2
      have g3 : 3 ≤ 2 + 1 → firstE (prErr s) s.ps.length = none := fun _ => g3
      refine BlkK.nrm ?_
      refine Exec.reg1 ?_
      refine Run.o1 (by simp only [go_sem, Int.toNat_natCast]; (try simp (disch := omega) only [IntWalk.i64_in, IntWalk.u64_in, if_neg, if_pos])<;> rfl) ?_
      refine Run.o ?_
      refine Run.nil ?_
      refine ForK.nxt ?_ ?_ ?_
      · omega
      · exact Ghost.kp [2, 19, 20, 21] [1000, 28010, 14, 16, 18, 19] (by simp only [go_sem, hpk2]; first | ((repeat' (first | with_reducible_and_instances rfl | refine st_eq ?_ ?_ ?_ | refine ret_eq ?_ | refine tup_eq ?_ | refine tm_eq ?_ ?_ | refine arr_eq ?_ | refine cells_eq ?_ | refine val_eq ?_ | refine ls_eq ?_ ?_ | refine own_eq ?_ ?_ | refine sl_eq ?_ | refine b_eq ?_ | (refine i_eq ?_; omega))); done) | rfl)
      · exact ⟨fun _ => g1, g2, g3⟩
    · exact absurd hb22 (by simp)
  have hk3 : k = 3 := by omega
  subst hk3
  have hto := terms_ok hsb (hX.1 (by decide)) (hX.2.1 (by decide)) (hX.2.2 (by decide))
  obtain ⟨hov, hoo⟩ := open_good (s := s) (by rw [hto])
  rw [hto] at hoo
  try rw [if_neg (by decide), if_neg (by decide), if_neg (by decide)]
  refine Exec.reg ?_
  refine Run.o1 (by simp only [go_sem, hov, hoo] <;> rfl) ?_
  refine Run.nil ?_
  refine Exec.cndS (by simp only [go_sem, hov, hoo] <;> rfl) (fun hb22 => ?_) (fun hb22 => ?_)
  · exact absurd hb22 (by simp)
  refine Exec.exitS ?_
  refine ForK.ext ?_
  refine BlkK.hit ?_
  refine Exec.reg ?_
  iterate 4 (refine Run.o ?_)
  refine Run.nil ?_
  first
  | (refine Ends.fin [1000, 28010] (rs := [.tmp 2, .tmp 3, .tmp 4]) rfl (by simp only [go_sem, hov, hoo] <;> rfl) ?_; simp only [go_sem, hov, hoo] <;> first | rfl | ((repeat' (first | with_reducible_and_instances rfl | refine st_eq ?_ ?_ ?_ | refine ret_eq ?_ | refine tup_eq ?_ | refine tm_eq ?_ ?_ | refine arr_eq ?_ | refine cells_eq ?_ | refine val_eq ?_ | refine ls_eq ?_ ?_ | refine own_eq ?_ ?_ | refine sl_eq ?_ | refine b_eq ?_ | (refine i_eq ?_; omega))); done; done))
  | (refine Ends.fin [] (rs := [.tmp 2, .tmp 3, .tmp 4]) rfl (by simp only [go_sem, hov, hoo] <;> rfl) ?_; simp only [go_sem, hov, hoo] <;> first | rfl | ((repeat' (first | with_reducible_and_instances rfl | refine st_eq ?_ ?_ ?_ | refine ret_eq ?_ | refine tup_eq ?_ | refine tm_eq ?_ ?_ | refine arr_eq ?_ | refine cells_eq ?_ | refine val_eq ?_ | refine ls_eq ?_ ?_ | refine own_eq ?_ ?_ | refine sl_eq ?_ | refine b_eq ?_ | (refine i_eq ?_; omega))); done; done))


end Go.Mw
namespace Go.Mw
open Go.Proofs
open Go.Te
theorem terms_idx {s : Stk} (h : (termsR s).2.2 = 0) : (termsR s).2.1 = 0 := by
  obtain ⟨h1, _, h3, h4, h5⟩ := terms_zero h
  rw [terms_ok h1 h3 h4 h5]
def bsNo (s : Stk) : List Int := s.bs.map (·.no)
abbrev termsL (s : Stk) : List (Int × Int) := (termsR s).1
theorem good_facts {s : Stk} (h : (termsR s).2.2 = 0) : Val s ∧ TmB s (termsL s) ∧ (bsNo s).Nodup := by
  obtain ⟨h1, h2, h3, h4, h5⟩ := terms_zero h
  refine ⟨stock_val h1, by show TmB s (termsR s).1; rw [h2]; exact tmb_st (stock_val h1) _ (Nat.le_refl _), ?_⟩
  have hE := firstE_none.1 h4
  unfold bsNo List.Nodup
  rw [List.pairwise_iff_getElem]
  intro i j hi hj hij e
  simp only [List.length_map] at hi hj
  have hbj : brOf s j = s.bs[j] := by simp [brOf, List.getD, List.getElem?_eq_getElem hj]
  have := hE j hj
  unfold brErr at this
  rw [hbj] at this
  split at this
  · exact absurd this (by decide)
  · rw [if_pos] at this
    · exact absurd this (by decide)
    · refine List.any_eq_true.2 ⟨s.bs[i], List.mem_of_getElem? (i := i) (by rw [List.getElem?_take, if_pos hij, List.getElem?_eq_getElem hi]), ?_⟩
      simp only [List.getElem_map] at e
      simp [e]
theorem rws_getD {s : Stk} {l : List (Int × Int)} (h : l.length = s.rs.length) {i : Nat} (hi : i < s.rs.length) : (rws s l).getD i default = (rowOf s i, endAt l i) := getD_of (rws_get h hi)
abbrev storeK (s : Stk) (m : Nat) : List FL := [.d (csD s.cs), .d (slsD s.rs), .d (psD s.ps), .d (bsD s.bs), .d (.sl 6 ((rws s (termsL s)).map encRow)), .obj m]
def askV (s : Stk) (x : Int) : AV := if (termsR s).2.2 = 0 then match rowI s x with
    | some i => .tup [(false, [.fpt (storeK s 42010)]), (false, [.d (.pt (encRow (rowOf s i, endAt (termsL s) i)))]), (false, [.d (.i 0)])]
    | none => .tup [(false, [.d (.raw (.pointer none))]), (false, [.d (.raw (.pointer none))]), (false, [.d (.i 4)])]
  else .tup [(false, [.d (.raw (.pointer none))]), (false, [.d (.raw (.pointer none))]), (false, [.d (.i (termsR s).2.2)])]
def askO (s : Stk) (x : Int) : List (Nat × AO) := if (termsR s).2.2 = 0 then match rowI s x with
    | some _ => [(42010, bkM s.bs)]
    | none => []
  else []
theorem ask_bad {s : Stk} (x : Int) (h : (termsR s).2.2 ≠ 0) : askV s x = .tup [(false, [.d (.raw (.pointer none))]), (false, [.d (.raw (.pointer none))]), (false, [.d (.i (termsR s).2.2)])] ∧ askO s x = [] := ⟨if_neg h, if_neg h⟩
theorem ask_none {s : Stk} {x : Int} (h : (termsR s).2.2 = 0) (hi : rowI s x = none) : askV s x = .tup [(false, [.d (.raw (.pointer none))]), (false, [.d (.raw (.pointer none))]), (false, [.d (.i 4)])] ∧ askO s x = [] := by
  unfold askV askO; rw [if_pos h, if_pos h, hi]; exact ⟨rfl, rfl⟩
theorem ask_some {s : Stk} {x : Int} {i : Nat} (h : (termsR s).2.2 = 0) (hi : rowI s x = some i) : askV s x = .tup [(false, [.fpt (storeK s 42010)]), (false, [.d (.pt (encRow (rowOf s i, endAt (termsL s) i)))]), (false, [.d (.i 0)])] ∧ askO s x = [(42010, bkM s.bs)] := by
  unfold askV askO; rw [if_pos h, if_pos h, hi]; exact ⟨rfl, rfl⟩
set_option maxRecDepth 20000 in
/-- meterworks/term.Check -/
theorem c_term_Check (s : Stk) (h : Small s) : Contract Try.prog 22 [stkV s] (.tup [(false, [.d (.i (termsR s).2.1)]), (false, [.d (.i (termsR s).2.2)])]) [] := by
  refine con_of follows_mixed Try.func22 rfl (by simp only [List.length_cons, List.length_nil, Try.ntmps22]; omega) (by kernel_rfl) rfl ?_
  refine Exec.reg ?_
  iterate 3 (refine Run.o ?_)
  refine Run.nil ?_
  by_cases hok : (termsR s).2.2 = 0
  · skip
    obtain ⟨v, htb, hnd⟩ := good_facts hok
    have hrs := v.nrs
    have hll := htb.len
    have hrl := rws_len hll
    obtain ⟨hov, hoo⟩ := open_good hok
    have hoc := c_open s h
    rw [hov, hoo] at hoc
    have hrt : List.take s.rs.length ((rws s (termsL s)).map encRow) = (rws s (termsL s)).map encRow := List.take_of_length_le (by rw [List.length_map, hrl]; exact Nat.le_refl _)
    have hi0 : (termsR s).2.1 = 0 := terms_idx hok
    refine Exec.reg ?_
    refine Run.o1 (by simp only [go_sem, List.length_map, hrl, List.drop_zero, hrt, hi0] <;> rfl) ?_
    refine Run.lendG [] (by simp only [go_sem] <;> rfl) (hoc) (by simp only [go_sem]) (.inl ⟨[], by simp only [go_sem] <;> rfl, rfl⟩) (by simp only [go_sem] <;> rfl) (by exact ⟨by first | exact WkR.pure rfl | exact WkR.nil _ | exact WkR.int (by first | omega | (simp; done) | (simp; omega)), trivial⟩) rfl (by decide) rfl (by intro p hp; cases hp) (by intro p hp; cases hp) (by intro p hp hn; simp only [List.mem_cons, List.not_mem_nil, or_false] at hp; rcases hp with rfl | rfl <;> (simp only [go_sem] <;> rfl)) (by simp only [go_sem] <;> rfl) ?_
    iterate 6 (refine Run.o1 (by simp only [go_sem, List.length_map, hrl, List.drop_zero, hrt, hi0] <;> rfl) ?_)
    refine Run.nil ?_
    refine Exec.reg ?_
    iterate 4 (refine Run.o1 (by simp only [go_sem, List.length_map, hrl, List.drop_zero, hrt, hi0] <;> rfl) ?_)
    refine Run.nil ?_
    exact Ends.fin [] (rs := [.tmp 2, .tmp 3]) rfl (by simp only [go_sem, List.length_map, hrl, List.drop_zero, hrt, hi0] <;> rfl) (by simp only [go_sem, List.length_map, hrl, List.drop_zero, hrt, hi0] <;> first | rfl | ((repeat' (first | with_reducible_and_instances rfl | refine st_eq ?_ ?_ ?_ | refine ret_eq ?_ | refine tup_eq ?_ | refine tm_eq ?_ ?_ | refine arr_eq ?_ | refine cells_eq ?_ | refine val_eq ?_ | refine ls_eq ?_ ?_ | refine own_eq ?_ ?_ | refine sl_eq ?_ | refine b_eq ?_ | (refine i_eq ?_; omega))); done))
  · skip
    obtain ⟨hov, hoo⟩ := open_bad (s := s) rfl hok
    have hoc := c_open s h
    rw [hov, hoo] at hoc
    refine Exec.reg ?_
    refine Run.o1 (by simp only [go_sem, hok] <;> rfl) ?_
    refine Run.c1 (hoc) (by simp only [go_sem, hok] <;> rfl) (by simp only [go_sem, hok] <;> rfl) ?_
    iterate 6 (refine Run.o1 (by simp only [go_sem, hok] <;> rfl) ?_)
    refine Run.nil ?_
    refine Exec.reg ?_
    iterate 4 (refine Run.o1 (by simp only [go_sem, hok] <;> rfl) ?_)
    refine Run.nil ?_
    exact Ends.fin [] (rs := [.tmp 2, .tmp 3]) rfl (by simp only [go_sem, hok] <;> rfl) (by simp only [go_sem, hok] <;> first | rfl | ((repeat' (first | with_reducible_and_instances rfl | refine st_eq ?_ ?_ ?_ | refine ret_eq ?_ | refine tup_eq ?_ | refine tm_eq ?_ ?_ | refine arr_eq ?_ | refine cells_eq ?_ | refine val_eq ?_ | refine ls_eq ?_ ?_ | refine own_eq ?_ ?_ | refine sl_eq ?_ | refine b_eq ?_ | (refine i_eq ?_; omega))); done))

set_option maxRecDepth 20000 in
set_option maxHeartbeats 8000000 in
/-- meterworks/term.ask -/
theorem c_term_ask (s : Stk) (h : Small s) (x : Int) : Con Try.prog 33 [stkV s, .int x] [] (.ret (askV s x) (askO s x)) := by
  refine con_of follows_mixed Try.func33 rfl (by simp only [List.length_cons, List.length_nil, Try.ntmps33]; omega) (by kernel_rfl) rfl ?_
  refine Exec.reg ?_
  iterate 4 (refine Run.o ?_)
  refine Run.nil ?_
  by_cases hok : (termsR s).2.2 = 0
  · skip
    obtain ⟨v, htb, hnd⟩ := good_facts hok
    have hrs := v.nrs
    have hll := htb.len
    have hrl := rws_len hll
    obtain ⟨hov, hoo⟩ := open_good hok
    have hoc := c_open s h
    rw [hov, hoo] at hoc
    have hrt : List.take s.rs.length ((rws s (termsL s)).map encRow) = (rws s (termsL s)).map encRow := List.take_of_length_le (by rw [List.length_map, hrl]; exact Nat.le_refl _)
    refine Exec.reg ?_
    refine Run.o1 (by simp only [go_sem, List.length_map, hrl, List.drop_zero, hrt] <;> rfl) ?_
    refine Run.lendG [] (by simp only [go_sem] <;> rfl) (hoc) (by simp only [go_sem]) (.inl ⟨[], by simp only [go_sem] <;> rfl, rfl⟩) (by simp only [go_sem] <;> rfl) (by exact ⟨by first | exact WkR.pure rfl | exact WkR.nil _ | exact WkR.int (by first | omega | (simp; done) | (simp; omega)), trivial⟩) rfl (by decide) rfl (by intro p hp; cases hp) (by intro p hp; cases hp) (by intro p hp hn; simp only [List.mem_cons, List.not_mem_nil, or_false] at hp; rcases hp with rfl | rfl <;> (simp only [go_sem] <;> rfl)) (by simp only [go_sem] <;> rfl) ?_
    iterate 7 (refine Run.o1 (by simp only [go_sem, List.length_map, hrl, List.drop_zero, hrt] <;> rfl) ?_)
    refine Run.nil ?_
    refine Exec.assocS ?_
    refine Exec.reg ?_
    iterate 2 (refine Run.o1 (by simp only [go_sem, List.length_map, hrl, List.drop_zero, hrt] <;> rfl) ?_)
    refine Run.nil ?_
    refine Exec.cndS (by simp only [go_sem, List.length_map, hrl, List.drop_zero, hrt] <;> rfl) (fun hb18 => ?_) (fun hb18 => ?_)
    · exact absurd hb18 (by simp)
    · skip
      have hfc := c_find_p s (rws s (termsL s)) (by omega) x
      rw [rws_find hll] at hfc
      refine Exec.skipS ?_
      by_cases hrw : rowI s x = none
      · skip
        rw [hrw] at hfc
        obtain ⟨hav, hao⟩ := ask_none hok hrw
        refine Exec.reg ?_
        refine Run.frz 15000 (by simp only [go_sem, List.length_map, hrl, List.drop_zero, hrt] <;> rfl) ?_
        iterate 2 (refine Run.o1 (by simp only [go_sem, List.length_map, hrl, List.drop_zero, hrt, hav, hao, findD] <;> rfl) ?_)
        refine Run.cal hfc (by simp only [go_sem]) (by simp only [go_sem] <;> rfl) (by exact ⟨WkR.fpt rfl, WkR.pure rfl, trivial⟩) fr0 (by simp only [go_sem, findD] <;> rfl) ?_
        refine Run.o1 (by simp only [go_sem, List.length_map, hrl, List.drop_zero, hrt, hav, hao, findD] <;> rfl) ?_
        refine Run.nil ?_
        refine Exec.assocS ?_
        refine Exec.reg ?_
        iterate 2 (refine Run.o1 (by simp only [go_sem, List.length_map, hrl, List.drop_zero, hrt, hav, hao, findD] <;> rfl) ?_)
        refine Run.nil ?_
        refine Exec.cndS (by simp only [go_sem, List.length_map, hrl, List.drop_zero, hrt, hav, hao, findD] <;> rfl) (fun hb24 => ?_) (fun hb24 => ?_)
        · skip
          refine Exec.assocS ?_
          refine Exec.reg ?_
          iterate 3 (refine Run.o1 (by simp only [go_sem, List.length_map, hrl, List.drop_zero, hrt, hav, hao, findD] <;> rfl) ?_)
          refine Run.nil ?_
          refine Exec.retS ?_
          first
          | (refine Ends.fin [] (rs := [.tmp 4, .tmp 5, .tmp 6]) rfl (by simp only [go_sem, List.length_map, hrl, List.drop_zero, hrt, hav, hao, findD] <;> rfl) ?_; simp only [go_sem, List.length_map, hrl, List.drop_zero, hrt, hav, hao, findD] <;> first | rfl | ((repeat' (first | with_reducible_and_instances rfl | refine st_eq ?_ ?_ ?_ | refine ret_eq ?_ | refine tup_eq ?_ | refine tm_eq ?_ ?_ | refine arr_eq ?_ | refine cells_eq ?_ | refine val_eq ?_ | refine ls_eq ?_ ?_ | refine own_eq ?_ ?_ | refine sl_eq ?_ | refine b_eq ?_ | (refine i_eq ?_; omega))); done; done))
          | (refine Ends.fin [42010] (rs := [.tmp 4, .tmp 5, .tmp 6]) rfl (by simp only [go_sem, List.length_map, hrl, List.drop_zero, hrt, hav, hao, findD] <;> rfl) ?_; simp only [go_sem, List.length_map, hrl, List.drop_zero, hrt, hav, hao, findD] <;> first | rfl | ((repeat' (first | with_reducible_and_instances rfl | refine st_eq ?_ ?_ ?_ | refine ret_eq ?_ | refine tup_eq ?_ | refine tm_eq ?_ ?_ | refine arr_eq ?_ | refine cells_eq ?_ | refine val_eq ?_ | refine ls_eq ?_ ?_ | refine own_eq ?_ ?_ | refine sl_eq ?_ | refine b_eq ?_ | (refine i_eq ?_; omega))); done; done))
        · exact absurd hb24 (by simp)
      · skip
        obtain ⟨i, hi⟩ : ∃ i, rowI s x = some i := Option.ne_none_iff_exists'.1 hrw
        rw [hi] at hfc
        have hil := (rowI_lt hi).1
        have hgd := rws_getD hll hil
        obtain ⟨hav, hao⟩ := ask_some hok hi
        refine Exec.reg ?_
        refine Run.frz 15000 (by simp only [go_sem, List.length_map, hrl, List.drop_zero, hrt] <;> rfl) ?_
        iterate 2 (refine Run.o1 (by simp only [go_sem, List.length_map, hrl, List.drop_zero, hrt, hav, hao, findD, hgd] <;> rfl) ?_)
        refine Run.cal hfc (by simp only [go_sem]) (by simp only [go_sem] <;> rfl) (by exact ⟨WkR.fpt rfl, WkR.pure rfl, trivial⟩) fr0 (by simp only [go_sem, findD] <;> rfl) ?_
        refine Run.o1 (by simp only [go_sem, List.length_map, hrl, List.drop_zero, hrt, hav, hao, findD, hgd] <;> rfl) ?_
        refine Run.nil ?_
        refine Exec.assocS ?_
        refine Exec.reg ?_
        iterate 2 (refine Run.o1 (by simp only [go_sem, List.length_map, hrl, List.drop_zero, hrt, hav, hao, findD, hgd] <;> rfl) ?_)
        refine Run.nil ?_
        refine Exec.cndS (by simp only [go_sem, List.length_map, hrl, List.drop_zero, hrt, hav, hao, findD, hgd] <;> rfl) (fun hb24 => ?_) (fun hb24 => ?_)
        · exact absurd hb24 (by simp)
        · skip
          refine Exec.skipS ?_
          refine Exec.reg ?_
          iterate 5 (refine Run.o1 (by simp only [go_sem, List.length_map, hrl, List.drop_zero, hrt, hav, hao, findD, hgd] <;> rfl) ?_)
          refine Run.nil ?_
          first
          | (refine Ends.fin [] (rs := [.tmp 4, .tmp 5, .tmp 6]) rfl (by simp only [go_sem, List.length_map, hrl, List.drop_zero, hrt, hav, hao, findD, hgd] <;> rfl) ?_; simp only [go_sem, List.length_map, hrl, List.drop_zero, hrt, hav, hao, findD, hgd] <;> first | rfl | ((repeat' (first | with_reducible_and_instances rfl | refine st_eq ?_ ?_ ?_ | refine ret_eq ?_ | refine tup_eq ?_ | refine tm_eq ?_ ?_ | refine arr_eq ?_ | refine cells_eq ?_ | refine val_eq ?_ | refine ls_eq ?_ ?_ | refine own_eq ?_ ?_ | refine sl_eq ?_ | refine b_eq ?_ | (refine i_eq ?_; omega))); done; done))
          | (refine Ends.fin [42010] (rs := [.tmp 4, .tmp 5, .tmp 6]) rfl (by simp only [go_sem, List.length_map, hrl, List.drop_zero, hrt, hav, hao, findD, hgd] <;> rfl) ?_; simp only [go_sem, List.length_map, hrl, List.drop_zero, hrt, hav, hao, findD, hgd] <;> first | rfl | ((repeat' (first | with_reducible_and_instances rfl | refine st_eq ?_ ?_ ?_ | refine ret_eq ?_ | refine tup_eq ?_ | refine tm_eq ?_ ?_ | refine arr_eq ?_ | refine cells_eq ?_ | refine val_eq ?_ | refine ls_eq ?_ ?_ | refine own_eq ?_ ?_ | refine sl_eq ?_ | refine b_eq ?_ | (refine i_eq ?_; omega))); done; done))
  · skip
    obtain ⟨hov, hoo⟩ := open_bad (s := s) rfl hok
    have hoc := c_open s h
    rw [hov, hoo] at hoc
    obtain ⟨hav, hao⟩ := ask_bad x hok
    refine Exec.reg ?_
    refine Run.o1 (by simp only [go_sem, hok, hav, hao] <;> rfl) ?_
    refine Run.c1 (hoc) (by simp only [go_sem, hok, hav, hao] <;> rfl) (by simp only [go_sem, hok, hav, hao] <;> rfl) ?_
    iterate 7 (refine Run.o1 (by simp only [go_sem, hok, hav, hao] <;> rfl) ?_)
    refine Run.nil ?_
    refine Exec.assocS ?_
    refine Exec.reg ?_
    iterate 2 (refine Run.o1 (by simp only [go_sem, hok, hav, hao] <;> rfl) ?_)
    refine Run.nil ?_
    refine Exec.cndS (by simp only [go_sem, hok, hav, hao] <;> rfl) (fun hb18 => ?_) (fun hb18 => ?_)
    · skip
      refine Exec.assocS ?_
      refine Exec.reg ?_
      iterate 4 (refine Run.o1 (by simp only [go_sem, hok, hav, hao] <;> rfl) ?_)
      refine Run.nil ?_
      refine Exec.retS ?_
      first
      | (refine Ends.fin [] (rs := [.tmp 4, .tmp 5, .tmp 6]) rfl (by simp only [go_sem, hok, hav, hao] <;> rfl) ?_; simp only [go_sem, hok, hav, hao] <;> first | rfl | ((repeat' (first | with_reducible_and_instances rfl | refine st_eq ?_ ?_ ?_ | refine ret_eq ?_ | refine tup_eq ?_ | refine tm_eq ?_ ?_ | refine arr_eq ?_ | refine cells_eq ?_ | refine val_eq ?_ | refine ls_eq ?_ ?_ | refine own_eq ?_ ?_ | refine sl_eq ?_ | refine b_eq ?_ | (refine i_eq ?_; omega))); done; done))
      | (refine Ends.fin [42010] (rs := [.tmp 4, .tmp 5, .tmp 6]) rfl (by simp only [go_sem, hok, hav, hao] <;> rfl) ?_; simp only [go_sem, hok, hav, hao] <;> first | rfl | ((repeat' (first | with_reducible_and_instances rfl | refine st_eq ?_ ?_ ?_ | refine ret_eq ?_ | refine tup_eq ?_ | refine tm_eq ?_ ?_ | refine arr_eq ?_ | refine cells_eq ?_ | refine val_eq ?_ | refine ls_eq ?_ ?_ | refine own_eq ?_ ?_ | refine sl_eq ?_ | refine b_eq ?_ | (refine i_eq ?_; omega))); done; done))
    · skip
      exact absurd (int_eq hb18) hok

def endV (s : Stk) (x : Int) : AV := .tup [(false, [.d (.i (endR s x).1)]), (false, [.d (.i (endR s x).2.1)]), (false, [.d (.i (endR s x).2.2)])]
theorem endR_bad {s : Stk} (x : Int) (h : (termsR s).2.2 ≠ 0) : endR s x = (0, 0, (termsR s).2.2) := if_neg h
theorem endR_none {s : Stk} {x : Int} (h : (termsR s).2.2 = 0) (hi : rowI s x = none) : endR s x = (0, 0, 4) := by unfold endR; rw [if_pos h, hi]
theorem endR_some {s : Stk} {x : Int} {i : Nat} (h : (termsR s).2.2 = 0) (hi : rowI s x = some i) : endR s x = ((endAt (termsL s) i).1, (endAt (termsL s) i).2, 0) := by unfold endR; rw [if_pos h, hi]
def statV (s : Stk) (x d : Int) : AV := .tup [(false, [.d (.i (statR s x d).1)]), (false, [.d (.i (statR s x d).2)])]
theorem statR_bad {s : Stk} (x d : Int) (h : (termsR s).2.2 ≠ 0) : statR s x d = (0, (termsR s).2.2) := if_neg h
theorem statR_none {s : Stk} {x : Int} (d : Int) (h : (termsR s).2.2 = 0) (hi : rowI s x = none) : statR s x d = (0, 4) := by unfold statR; rw [if_pos h, hi]
theorem statR_some {s : Stk} {x d : Int} {i : Nat} (h : (termsR s).2.2 = 0) (hi : rowI s x = some i) : statR s x d = if inB d 0 131072 = false then (0, 2) else (if isBrk s x d = true then 3 else stOf (rowOf s i) (endAt (termsL s) i).1 d, 0) := by unfold statR; rw [if_pos h, hi]
set_option maxRecDepth 20000 in
/-- meterworks/term.End -/
theorem c_term_End (s : Stk) (h : Small s) (x : Int) : Contract Try.prog 17 [stkV s, .int x] (endV s x) [] := by
  refine con_of follows_mixed Try.func17 rfl (by simp only [List.length_cons, List.length_nil, Try.ntmps17]; omega) (by kernel_rfl) rfl ?_
  refine Exec.reg ?_
  iterate 4 (refine Run.o1 (by simp only [go_sem, endV] <;> rfl) ?_)
  refine Run.nil ?_
  by_cases hok : (termsR s).2.2 = 0
  · skip
    obtain ⟨v, htb, hnd⟩ := good_facts hok
    have hll := htb.len
    have hac := c_term_ask s h x
    by_cases hrw : rowI s x = none
    · skip
      obtain ⟨hav, hao⟩ := ask_none hok hrw
      rw [hav, hao] at hac
      have hr := endR_none hok hrw
      refine Exec.reg ?_
      iterate 2 (refine Run.o1 (by simp only [go_sem, endV, hr] <;> rfl) ?_)
      refine Run.c1 (hac) (by simp only [go_sem, endV, hr] <;> rfl) (by simp only [go_sem, endV, hr] <;> rfl) ?_
      iterate 7 (refine Run.o1 (by simp only [go_sem, endV, hr] <;> rfl) ?_)
      refine Run.nil ?_
      refine Exec.assocS ?_
      refine Exec.reg ?_
      iterate 2 (refine Run.o1 (by simp only [go_sem, endV, hr] <;> rfl) ?_)
      refine Run.nil ?_
      refine Exec.cndS (by simp only [go_sem, endV, hr] <;> rfl) (fun hb17 => ?_) (fun hb17 => ?_)
      · skip
        refine Exec.assocS ?_
        refine Exec.reg ?_
        iterate 4 (refine Run.o1 (by simp only [go_sem, endV, hr] <;> rfl) ?_)
        refine Run.nil ?_
        refine Exec.retS ?_
        exact Ends.fin [] (rs := [.tmp 4, .tmp 5, .tmp 6]) rfl (by simp only [go_sem, endV, hr] <;> rfl) (by simp only [go_sem, endV, hr] <;> first | rfl | ((repeat' (first | with_reducible_and_instances rfl | refine st_eq ?_ ?_ ?_ | refine ret_eq ?_ | refine tup_eq ?_ | refine tm_eq ?_ ?_ | refine arr_eq ?_ | refine cells_eq ?_ | refine val_eq ?_ | refine ls_eq ?_ ?_ | refine own_eq ?_ ?_ | refine sl_eq ?_ | refine b_eq ?_ | (refine i_eq ?_; omega))); done))
      · exact absurd hb17 (by simp)
    · skip
      obtain ⟨i, hi⟩ : ∃ i, rowI s x = some i := Option.ne_none_iff_exists'.1 hrw
      have hil := (rowI_lt hi).1
      obtain ⟨hav, hao⟩ := ask_some hok hi
      rw [hav, hao] at hac
      have hr := endR_some hok hi
      refine Exec.reg ?_
      iterate 2 (refine Run.o1 (by simp only [go_sem, endV, hr] <;> rfl) ?_)
      refine Run.lendG [] (by simp only [go_sem] <;> rfl) (hac) (by simp only [go_sem]) (.inl ⟨[], by simp only [go_sem] <;> rfl, rfl⟩) (by simp only [go_sem] <;> rfl) (by exact ⟨by first | exact WkR.pure rfl | exact WkR.nil _ | exact WkR.int (by first | omega | (simp; done) | (simp; omega)), by first | exact WkR.pure rfl | exact WkR.nil _ | exact WkR.int (by first | omega | (simp; done) | (simp; omega)), trivial⟩) rfl (by decide) rfl (by intro p hp; cases hp) (by intro p hp; cases hp) (by intro p hp hn; simp only [List.mem_cons, List.not_mem_nil, or_false] at hp; rcases hp with rfl <;> (simp only [go_sem] <;> rfl)) (by simp only [go_sem] <;> rfl) ?_
      iterate 7 (refine Run.o1 (by simp only [go_sem, endV, hr] <;> rfl) ?_)
      refine Run.nil ?_
      refine Exec.assocS ?_
      refine Exec.reg ?_
      iterate 2 (refine Run.o1 (by simp only [go_sem, endV, hr] <;> rfl) ?_)
      refine Run.nil ?_
      refine Exec.cndS (by simp only [go_sem, endV, hr] <;> rfl) (fun hb17 => ?_) (fun hb17 => ?_)
      · exact absurd hb17 (by simp)
      · skip
        refine Exec.skipS ?_
        refine Exec.opk 13 ?_
        refine OpenK.o1 (by simp only [go_sem, endV, hr] <;> rfl) ?_
        refine OpenK.o1 (by simp only [go_sem, endV, hr] <;> rfl) ?_
        refine OpenK.o1 (by simp only [go_sem, endV, hr] <;> rfl) ?_
        refine OpenK.o1 (by simp only [go_sem, endV, hr] <;> rfl) ?_
        refine OpenK.o1 (by simp only [go_sem, endV, hr] <;> rfl) ?_
        refine OpenK.o1 (by simp only [go_sem, endV, hr] <;> rfl) ?_
        refine OpenK.o1 (by simp only [go_sem, endV, hr] <;> rfl) ?_
        refine OpenK.o1 (by simp only [go_sem, endV, hr] <;> rfl) ?_
        refine OpenK.o1 (by simp only [go_sem, endV, hr] <;> rfl) ?_
        refine OpenK.o1 (by simp only [go_sem, endV, hr] <;> rfl) ?_
        refine OpenK.o1 (by simp only [go_sem, endV, hr] <;> rfl) ?_
        refine OpenK.nil (OpenE.fin (by decide +kernel) (by decide +kernel) ?_)
        exact Ends.fin [] (rs := [.tmp 4, .tmp 5, .tmp 6]) rfl (by simp only [go_sem, endV, hr] <;> rfl) (by simp only [go_sem, endV, hr] <;> first | rfl | ((repeat' (first | with_reducible_and_instances rfl | refine st_eq ?_ ?_ ?_ | refine ret_eq ?_ | refine tup_eq ?_ | refine tm_eq ?_ ?_ | refine arr_eq ?_ | refine cells_eq ?_ | refine val_eq ?_ | refine ls_eq ?_ ?_ | refine own_eq ?_ ?_ | refine sl_eq ?_ | refine b_eq ?_ | (refine i_eq ?_; omega))); done))
  · skip
    obtain ⟨hav, hao⟩ := ask_bad x hok
    have hac := c_term_ask s h x
    rw [hav, hao] at hac
    have hr := endR_bad x hok
    refine Exec.reg ?_
    iterate 2 (refine Run.o1 (by simp only [go_sem, endV, hok, hr] <;> rfl) ?_)
    refine Run.c1 (hac) (by simp only [go_sem, endV, hok, hr] <;> rfl) (by simp only [go_sem, endV, hok, hr] <;> rfl) ?_
    iterate 7 (refine Run.o1 (by simp only [go_sem, endV, hok, hr] <;> rfl) ?_)
    refine Run.nil ?_
    refine Exec.assocS ?_
    refine Exec.reg ?_
    iterate 2 (refine Run.o1 (by simp only [go_sem, endV, hok, hr] <;> rfl) ?_)
    refine Run.nil ?_
    refine Exec.cndS (by simp only [go_sem, endV, hok, hr] <;> rfl) (fun hb17 => ?_) (fun hb17 => ?_)
    · skip
      refine Exec.assocS ?_
      refine Exec.reg ?_
      iterate 4 (refine Run.o1 (by simp only [go_sem, endV, hok, hr] <;> rfl) ?_)
      refine Run.nil ?_
      refine Exec.retS ?_
      exact Ends.fin [] (rs := [.tmp 4, .tmp 5, .tmp 6]) rfl (by simp only [go_sem, endV, hok, hr] <;> rfl) (by simp only [go_sem, endV, hok, hr] <;> first | rfl | ((repeat' (first | with_reducible_and_instances rfl | refine st_eq ?_ ?_ ?_ | refine ret_eq ?_ | refine tup_eq ?_ | refine tm_eq ?_ ?_ | refine arr_eq ?_ | refine cells_eq ?_ | refine val_eq ?_ | refine ls_eq ?_ ?_ | refine own_eq ?_ ?_ | refine sl_eq ?_ | refine b_eq ?_ | (refine i_eq ?_; omega))); done))
    · skip
      exact absurd (int_eq hb17) hok

set_option maxRecDepth 20000 in
/-- meterworks/term.Status -/
theorem c_term_Status (s : Stk) (h : Small s) (x d : Int) : Contract Try.prog 18 [stkV s, .int x, .int d] (statV s x d) [] := by
  refine con_of follows_mixed Try.func18 rfl (by simp only [List.length_cons, List.length_nil, Try.ntmps18]; omega) (by kernel_rfl) rfl ?_
  refine Exec.reg ?_
  iterate 3 (refine Run.o1 (by simp only [go_sem, statV] <;> rfl) ?_)
  refine Run.nil ?_
  by_cases hok : (termsR s).2.2 = 0
  · skip
    obtain ⟨v, htb, hnd⟩ := good_facts hok
    have hll := htb.len
    have hac := c_term_ask s h x
    by_cases hrw : rowI s x = none
    · skip
      obtain ⟨hav, hao⟩ := ask_none hok hrw
      rw [hav, hao] at hac
      have hr := statR_none d hok hrw
      refine Exec.reg ?_
      iterate 2 (refine Run.o1 (by simp only [go_sem, statV, hr] <;> rfl) ?_)
      refine Run.c1 (hac) (by simp only [go_sem, statV, hr] <;> rfl) (by simp only [go_sem, statV, hr] <;> rfl) ?_
      iterate 7 (refine Run.o1 (by simp only [go_sem, statV, hr] <;> rfl) ?_)
      refine Run.nil ?_
      refine Exec.blk ?_
      refine Exec.reg ?_
      iterate 3 (refine Run.o1 (by simp only [go_sem, statV, hr] <;> rfl) ?_)
      refine Run.nil ?_
      refine Exec.cnd (by simp only [go_sem, statV, hr] <;> rfl) (fun hb18 => ?_) (fun hb18 => ?_)
      · skip
        refine Exec.reg ?_
        iterate 3 (refine Run.o1 (by simp only [go_sem, statV, hr] <;> rfl) ?_)
        refine Run.nil ?_
        refine BlkK.ret ?_
        exact Ends.fin [] (rs := [.tmp 6, .tmp 7]) rfl (by simp only [go_sem, statV, hr] <;> rfl) (by simp only [go_sem, statV, hr] <;> first | rfl | ((repeat' (first | with_reducible_and_instances rfl | refine st_eq ?_ ?_ ?_ | refine ret_eq ?_ | refine tup_eq ?_ | refine tm_eq ?_ ?_ | refine arr_eq ?_ | refine cells_eq ?_ | refine val_eq ?_ | refine ls_eq ?_ ?_ | refine own_eq ?_ ?_ | refine sl_eq ?_ | refine b_eq ?_ | (refine i_eq ?_; omega))); done))
      · exact absurd hb18 (by simp)
    · skip
      obtain ⟨i, hi⟩ : ∃ i, rowI s x = some i := Option.ne_none_iff_exists'.1 hrw
      have hil := (rowI_lt hi).1
      obtain ⟨hav, hao⟩ := ask_some hok hi
      rw [hav, hao] at hac
      have hr := statR_some (d := d) hok hi
      refine Exec.reg ?_
      iterate 2 (refine Run.o1 (by simp only [go_sem, statV] <;> rfl) ?_)
      refine Run.lendG [] (by simp only [go_sem] <;> rfl) (hac) (by simp only [go_sem]) (.inl ⟨[], by simp only [go_sem] <;> rfl, rfl⟩) (by simp only [go_sem] <;> rfl) (by exact ⟨by first | exact WkR.pure rfl | exact WkR.nil _ | exact WkR.int (by first | omega | (simp; done) | (simp; omega)), by first | exact WkR.pure rfl | exact WkR.nil _ | exact WkR.int (by first | omega | (simp; done) | (simp; omega)), trivial⟩) rfl (by decide) rfl (by intro p hp; cases hp) (by intro p hp; cases hp) (by intro p hp hn; simp only [List.mem_cons, List.not_mem_nil, or_false] at hp; rcases hp with rfl <;> (simp only [go_sem] <;> rfl)) (by simp only [go_sem] <;> rfl) ?_
      iterate 7 (refine Run.o1 (by simp only [go_sem, statV] <;> rfl) ?_)
      refine Run.nil ?_
      refine Exec.blk ?_
      refine Exec.reg ?_
      iterate 3 (refine Run.o1 (by simp only [go_sem, statV] <;> rfl) ?_)
      refine Run.nil ?_
      refine Exec.cnd (by simp only [go_sem, statV] <;> rfl) (fun hb18 => ?_) (fun hb18 => ?_)
      · exact absurd hb18 (by simp)
      · skip
        refine Exec.reg ?_
        refine Run.o1 (by simp only [go_sem, statV] <;> rfl) ?_
        refine Run.c1 (c_term_isDay _) (by simp only [go_sem, statV] <;> rfl) (by simp only [go_sem, statV] <;> rfl) ?_
        iterate 2 (refine Run.o1 (by simp only [go_sem, statV] <;> rfl) ?_)
        refine Run.nil ?_
        refine Exec.cnd (by simp only [go_sem, statV] <;> rfl) (fun hb22 => ?_) (fun hb22 => ?_)
        · skip
          have hr : statR s x d = (0, 2) := by rw [hr, if_pos (by simpa using hb22)]
          refine Exec.reg ?_
          iterate 2 (refine Run.o1 (by simp only [go_sem, statV, hr] <;> rfl) ?_)
          refine Run.nil ?_
          refine BlkK.ret ?_
          exact Ends.fin [] (rs := [.tmp 6, .tmp 7]) rfl (by simp only [go_sem, statV, hr] <;> rfl) (by simp only [go_sem, statV, hr] <;> first | rfl | ((repeat' (first | with_reducible_and_instances rfl | refine st_eq ?_ ?_ ?_ | refine ret_eq ?_ | refine tup_eq ?_ | refine tm_eq ?_ ?_ | refine arr_eq ?_ | refine cells_eq ?_ | refine val_eq ?_ | refine ls_eq ?_ ?_ | refine own_eq ?_ ?_ | refine sl_eq ?_ | refine b_eq ?_ | (refine i_eq ?_; omega))); done))
        · skip
          have hr : statR s x d = (if isBrk s x d = true then 3 else stOf (rowOf s i) (endAt (termsL s) i).1 d, 0) := by rw [hr, if_neg (by simpa using hb22)]
          refine Exec.reg ?_
          iterate 3 (refine Run.o1 (by simp only [go_sem, statV] <;> rfl) ?_)
          refine Run.lendG [(901, 57010)] (by simp only [go_sem] <;> rfl) (c_isBroken s.bs x d) (by simp only [go_sem]) (.inl ⟨[], by simp only [go_sem] <;> rfl, rfl⟩) (by simp only [go_sem, isBk_brk] <;> rfl) (by exact ⟨by first | exact WkR.pure rfl | exact WkR.of rfl rfl | exact WkR.nil _ | exact WkR.int (by first | omega | (simp; done) | (simp; omega)) | exact WkR.fptW rfl ⟨by first | exact .inl rfl | exact .inr rfl, by first | exact .inl rfl | exact .inr rfl, by first | exact .inl rfl | exact .inr rfl, by first | exact .inl rfl | exact .inr rfl, by first | exact .inl rfl | exact .inr rfl, by first | exact .inl rfl | exact .inr rfl, trivial⟩, by first | exact WkR.pure rfl | exact WkR.of rfl rfl | exact WkR.nil _ | exact WkR.int (by first | omega | (simp; done) | (simp; omega)) | exact WkR.fptW rfl ⟨by first | exact .inl rfl | exact .inr rfl, by first | exact .inl rfl | exact .inr rfl, by first | exact .inl rfl | exact .inr rfl, by first | exact .inl rfl | exact .inr rfl, by first | exact .inl rfl | exact .inr rfl, by first | exact .inl rfl | exact .inr rfl, trivial⟩, by first | exact WkR.pure rfl | exact WkR.of rfl rfl | exact WkR.nil _ | exact WkR.int (by first | omega | (simp; done) | (simp; omega)) | exact WkR.fptW rfl ⟨by first | exact .inl rfl | exact .inr rfl, by first | exact .inl rfl | exact .inr rfl, by first | exact .inl rfl | exact .inr rfl, by first | exact .inl rfl | exact .inr rfl, by first | exact .inl rfl | exact .inr rfl, by first | exact .inl rfl | exact .inr rfl, trivial⟩, trivial⟩) rfl (by decide) (by first | rfl | (simp only [List.all_cons, List.all_nil, inn_bk, Bool.and_true, Bool.true_and]; done) | (simp only [List.all_cons, List.all_nil, inn_bk, Bool.and_true, Bool.true_and] <;> rfl)) (by intro p hp n hn; simp only [List.mem_cons, List.not_mem_nil, or_false] at hp; rcases hp with rfl <;> (simp [look] at hn; subst hn; simp only [go_sem, isBk_brk] <;> rfl)) (by intro p hp; simp only [List.mem_cons, List.not_mem_nil, or_false] at hp; rcases hp with rfl <;> (first | exact ⟨_, rfl, back_refl _⟩ | exact ⟨_, rfl, _, rfl, by simp⟩ | exact ⟨_, rfl, _, rfl⟩)) (by intro p hp hn; simp only [List.mem_cons, List.not_mem_nil, or_false] at hp; rcases hp with rfl <;> simp [look] at hn) (by simp only [go_sem, isBk_brk] <;> rfl) ?_
          refine Run.o1 (by simp only [go_sem, statV] <;> rfl) ?_
          refine Run.nil ?_
          refine Exec.cnd (by simp only [go_sem, statV] <;> rfl) (fun hb26 => ?_) (fun hb26 => ?_)
          · skip
            have hr : statR s x d = (3, 0) := by rw [hr, if_pos (by simpa using hb26)]
            refine Exec.reg ?_
            iterate 2 (refine Run.o1 (by simp only [go_sem, statV, hr] <;> rfl) ?_)
            refine Run.nil ?_
            refine BlkK.ret ?_
            exact Ends.fin [] (rs := [.tmp 6, .tmp 7]) rfl (by simp only [go_sem, statV, hr] <;> rfl) (by simp only [go_sem, statV, hr] <;> first | rfl | ((repeat' (first | with_reducible_and_instances rfl | refine st_eq ?_ ?_ ?_ | refine ret_eq ?_ | refine tup_eq ?_ | refine tm_eq ?_ ?_ | refine arr_eq ?_ | refine cells_eq ?_ | refine val_eq ?_ | refine ls_eq ?_ ?_ | refine own_eq ?_ ?_ | refine sl_eq ?_ | refine b_eq ?_ | (refine i_eq ?_; omega))); done))
          · skip
            have hr : statR s x d = (stOf (rowOf s i) (endAt (termsL s) i).1 d, 0) := by rw [hr, if_neg (by simpa using hb26)]
            refine BlkK.nrm ?_
            refine Exec.reg ?_
            iterate 2 (refine Run.o1 (by simp only [go_sem, statV, hr] <;> rfl) ?_)
            refine Run.c1 (c_row_status (rowOf s i, endAt (termsL s) i) d) (by simp only [go_sem, statV, hr] <;> rfl) (by simp only [go_sem, statV, hr] <;> rfl) ?_
            iterate 2 (refine Run.o1 (by simp only [go_sem, statV, hr] <;> rfl) ?_)
            refine Run.nil ?_
            exact Ends.fin [] (rs := [.tmp 6, .tmp 7]) rfl (by simp only [go_sem, statV, hr] <;> rfl) (by simp only [go_sem, statV, hr] <;> first | rfl | ((repeat' (first | with_reducible_and_instances rfl | refine st_eq ?_ ?_ ?_ | refine ret_eq ?_ | refine tup_eq ?_ | refine tm_eq ?_ ?_ | refine arr_eq ?_ | refine cells_eq ?_ | refine val_eq ?_ | refine ls_eq ?_ ?_ | refine own_eq ?_ ?_ | refine sl_eq ?_ | refine b_eq ?_ | (refine i_eq ?_; omega))); done))
  · skip
    obtain ⟨hav, hao⟩ := ask_bad x hok
    have hac := c_term_ask s h x
    rw [hav, hao] at hac
    have hr := statR_bad x d hok
    refine Exec.reg ?_
    iterate 2 (refine Run.o1 (by simp only [go_sem, statV, hok, hr] <;> rfl) ?_)
    refine Run.c1 (hac) (by simp only [go_sem, statV, hok, hr] <;> rfl) (by simp only [go_sem, statV, hok, hr] <;> rfl) ?_
    iterate 7 (refine Run.o1 (by simp only [go_sem, statV, hok, hr] <;> rfl) ?_)
    refine Run.nil ?_
    refine Exec.blk ?_
    refine Exec.reg ?_
    iterate 3 (refine Run.o1 (by simp only [go_sem, statV, hok, hr] <;> rfl) ?_)
    refine Run.nil ?_
    refine Exec.cnd (by simp only [go_sem, statV, hok, hr] <;> rfl) (fun hb18 => ?_) (fun hb18 => ?_)
    · skip
      refine Exec.reg ?_
      iterate 3 (refine Run.o1 (by simp only [go_sem, statV, hok, hr] <;> rfl) ?_)
      refine Run.nil ?_
      refine BlkK.ret ?_
      exact Ends.fin [] (rs := [.tmp 6, .tmp 7]) rfl (by simp only [go_sem, statV, hok, hr] <;> rfl) (by simp only [go_sem, statV, hok, hr] <;> first | rfl | ((repeat' (first | with_reducible_and_instances rfl | refine st_eq ?_ ?_ ?_ | refine ret_eq ?_ | refine tup_eq ?_ | refine tm_eq ?_ ?_ | refine arr_eq ?_ | refine cells_eq ?_ | refine val_eq ?_ | refine ls_eq ?_ ?_ | refine own_eq ?_ ?_ | refine sl_eq ?_ | refine b_eq ?_ | (refine i_eq ?_; omega))); done))
    · skip
      exact absurd (int_eq hb18) hok

end Go.Mw

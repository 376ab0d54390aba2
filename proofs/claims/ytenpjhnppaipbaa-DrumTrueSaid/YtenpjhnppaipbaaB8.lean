/- Contracts of the sorting functions. -/
import Derived.Test.YtenpjhnppaipbaaB7
set_option linter.unusedSimpArgs false
set_option linter.unusedVariables false
set_option linter.unusedSectionVars false
set_option linter.deprecated false
namespace Go.Mw
open Go.Proofs
open Go.Dr
set_option maxRecDepth 20000 in
set_option maxHeartbeats 4000000 in
/-- slices.insertionSortCmpFunc[meterworks/api.Span] -/
theorem c_insertionSort_Span {g : FuncId} {ds : List D} (c : Go.Dr.Span → Go.Dr.Span → Int) (hg : canCall Try.prog g = true) (hc : ∀ x y, Contract Try.prog g (spanV x :: spanV y :: ds.map fun x => .leaf (.d x)) (.int (c x y)) []) (p s q : List Go.Dr.Span) (n : Nat) (hn : (p ++ s ++ q).length = n) (hn2 : n ≤ 1000) : Con Try.prog 61 [.leaf (.own 900 0 n n), .int p.length, .int (p.length + s.length), .leaf (.d (.fn g ds))] [(900, .arr 45 2 ((p ++ s ++ q).map encSpan))] (.ret (.tup []) [(900, .arr 45 2 ((p ++ isortE (fun x y => decide (c x y < 0)) s ++ q).map encSpan))]) := by
  have hps : p.length + s.length + q.length = n := by rw [← hn]; simp; omega
  generalize hlt : (fun x y => decide (c x y < 0)) = lt
  refine con_of follows_mixed Try.func61 rfl (by simp only [List.length_cons, List.length_nil, Try.ntmps61]; omega) (by kernel_rfl) rfl ?_
  refine Exec.reg ?_
  refine Run.op (by simp only [go_sem] <;> rfl) (by simp only [go_sem] <;> rfl) ?_
  refine Run.op (by simp only [go_sem]; (try simp (disch := omega) only [IntWalk.i64_in, IntWalk.u64_in, if_neg, if_pos])<;> rfl) (by simp only [go_sem] <;> rfl) ?_
  refine Run.op (by simp only [go_sem] <;> rfl) (by simp only [go_sem] <;> rfl) ?_
  refine Run.nil ?_
  refine Exec.blk1 ?_
  refine Exec.forA [0, 1, 2, 3, 8] [900] (s.length) (fun k => [.slot 8 (.int ((p.length : Int) + 1 + k)), .obj 900 (.arr 45 2 ((p ++ (isortE lt (s.take (k + 1)) ++ s.drop (k + 1)) ++ q).map encSpan))]) (fun _ => True) (fun k => by simp only [go_sem] <;> rfl) (by simp only [go_sem, Nat.zero_add, isortE_one, Int.natCast_zero, Int.add_zero] <;> rfl) ?_ (fun k hk hX => ?_)
  · trivial
  · skip
    refine Exec.assocS ?_
    refine Exec.reg ?_
    iterate 3 (refine Run.op (by simp only [go_sem] <;> rfl) (by simp only [go_sem] <;> rfl) ?_)
    refine Run.nil ?_
    refine Exec.cndS (by simp only [go_sem] <;> rfl) (fun hb14 => ?_) (fun hb14 => ?_)
    · skip
      have hk1 : k + 1 < s.length := by have := of_decide_eq_true hb14; omega
      have htl : (isortE lt (s.take (k + 1))).length = k + 1 := by rw [len_isortE]; simp; omega
      obtain ⟨x, hx⟩ : ∃ x, s[k + 1]? = some x := ⟨_, List.getElem?_eq_getElem hk1⟩
      have hdr : s.drop (k + 1) = x :: s.drop (k + 2) := by
        obtain ⟨h1, rfl⟩ := List.getElem?_eq_some_iff.1 hx
        exact (List.getElem_cons_drop h1).symm
      have e0 : Lt p (isortE lt (s.take (k + 1))) (s.drop (k + 2) ++ q) x (k + 1) = p ++ (isortE lt (s.take (k + 1)) ++ s.drop (k + 1)) ++ q := by
        have := Lt_start (p := p) (t := isortE lt (s.take (k + 1))) (r := s.drop (k + 2) ++ q) (x := x)
        rw [htl] at this
        rw [this, hdr]; simp
      refine Exec.skipS ?_
      refine Exec.blk ?_
      refine Exec.reg ?_
      iterate 2 (refine Run.op (by simp only [go_sem] <;> rfl) (by simp only [go_sem] <;> rfl) ?_)
      refine Run.nil ?_
      refine Exec.blk1 ?_
      refine Exec.forA [0, 1, 2, 3, 8, 9] [900] (k + 1) (fun j => [.slot 9 (.int ((p.length : Int) + 1 + k - j)), .obj 900 (.arr 45 2 ((Lt p (isortE lt (s.take (k + 1))) (s.drop (k + 2) ++ q) x (k + 1 - j)).map encSpan))]) (fun j => scanE lt x (isortE lt (s.take (k + 1))) (k + 1) = scanE lt x (isortE lt (s.take (k + 1))) (k + 1 - j)) (fun j => by simp only [go_sem] <;> rfl) (by simp only [go_sem, Nat.sub_zero, e0, Int.natCast_zero, Int.sub_zero] <;> rfl) ?_ (fun j hj Xj => ?_)
      · rfl
      · skip
        refine Exec.assocS ?_
        by_cases hj1 : j < k + 1
        · skip
          have hg1 : decide ((p.length : Int) + 1 + k - j > p.length) = true := by simp; omega
          obtain ⟨y, hy⟩ : ∃ y, (isortE lt (s.take (k + 1)))[k - j]? = some y := ⟨_, List.getElem?_eq_getElem (by omega)⟩
          have hcj : k + 1 - j = k - j + 1 := by omega
          have hcj2 : k + 1 - (j + 1) = k - j := by omega
          have t1 : ((p.length : Int) + 1 + k - j).toNat = p.length + (k + 1 - j) := by omega
          have t2 : ((p.length : Int) + 1 + k - j - 1).toNat = p.length + (k - j) := by omega
          have fl : (Lt p (isortE lt (s.take (k + 1))) (s.drop (k + 2) ++ q) x (k + 1 - j)).length = n := by rw [Lt_len (by omega), htl, List.length_append, List.length_drop]; omega
          have fx := Lt_x (p := p) (t := isortE lt (s.take (k + 1))) (r := s.drop (k + 2) ++ q) (x := x) (c := k + 1 - j) (by omega)
          have fy : (Lt p (isortE lt (s.take (k + 1))) (s.drop (k + 2) ++ q) x (k + 1 - j))[p.length + (k - j)]? = some y := by rw [hcj]; exact Lt_y hy
          refine Exec.opk 19 ?_
          refine OpenK.op (by simp only [go_sem, hg1, t1, t2, fl, fx, fy] <;> rfl) (by simp only [go_sem] <;> rfl) (by simp only [go_sem] <;> rfl) ?_
          refine OpenK.op (by simp only [go_sem, hg1, t1, t2, fl, fx, fy] <;> rfl) (by simp only [go_sem] <;> rfl) (by simp only [go_sem] <;> rfl) ?_
          refine OpenK.op (by simp only [go_sem, hg1, t1, t2, fl, fx, fy] <;> rfl) (by simp only [go_sem] <;> rfl) (by simp only [go_sem] <;> rfl) ?_
          refine OpenK.op (by simp only [go_sem, hg1, t1, t2, fl, fx, fy] <;> rfl) (by simp only [go_sem] <;> rfl) (by simp only [go_sem] <;> rfl) ?_
          refine OpenK.yes (by simp only [go_sem] <;> rfl) (by simp only [go_sem, hg1, t1, t2, fl, fx, fy] <;> rfl) (by simp only [go_sem] <;> rfl) (by simp only [go_sem] <;> rfl) ?_
          refine OpenK.yes (by simp only [go_sem] <;> rfl) (by simp only [go_sem, hg1, t1, t2, fl, fx, fy] <;> rfl) (by simp only [go_sem] <;> rfl) (by simp only [go_sem] <;> rfl) ?_
          refine OpenK.yes (by simp only [go_sem] <;> rfl) (by simp only [go_sem, hg1, t1, t2, fl, fx, fy] <;> rfl) (by simp only [go_sem] <;> rfl) (by simp only [go_sem] <;> rfl) ?_
          refine OpenK.yes (by simp only [go_sem] <;> rfl) (by simp only [go_sem, hg1, t1, t2, fl, fx, fy]; (try simp (disch := omega) only [if_pos]); (try simp only [go_sem, hg1, t1, t2, fl, fx, fy])<;> rfl) (by simp only [go_sem] <;> rfl) (by simp only [go_sem] <;> rfl) ?_
          refine OpenK.yes (by simp only [go_sem] <;> rfl) (by simp only [go_sem, hg1, t1, t2, fl, fx, fy] <;> rfl) (by simp only [go_sem] <;> rfl) (by simp only [go_sem] <;> rfl) ?_
          refine OpenK.yes (by simp only [go_sem] <;> rfl) (by simp only [go_sem, hg1, t1, t2, fl, fx, fy] <;> rfl) (by simp only [go_sem] <;> rfl) (by simp only [go_sem] <;> rfl) ?_
          refine OpenK.yes (by simp only [go_sem] <;> rfl) (by simp only [go_sem, hg1, t1, t2, fl, fx, fy] <;> rfl) (by simp only [go_sem] <;> rfl) (by simp only [go_sem] <;> rfl) ?_
          refine OpenK.yes (by simp only [go_sem] <;> rfl) (by simp only [go_sem, hg1, t1, t2, fl, fx, fy]; (try simp (disch := omega) only [IntWalk.i64_in, IntWalk.u64_in, if_neg, if_pos])<;> rfl) (by simp only [go_sem] <;> rfl) (by simp only [go_sem] <;> rfl) ?_
          refine OpenK.yes (by simp only [go_sem] <;> rfl) (by simp only [go_sem, hg1, t1, t2, fl, fx, fy]; (try simp (disch := omega) only [if_pos]); (try simp only [go_sem, hg1, t1, t2, fl, fx, fy])<;> rfl) (by simp only [go_sem] <;> rfl) (by simp only [go_sem] <;> rfl) ?_
          refine OpenK.yes (by simp only [go_sem] <;> rfl) (by simp only [go_sem, hg1, t1, t2, fl, fx, fy] <;> rfl) (by simp only [go_sem] <;> rfl) (by simp only [go_sem] <;> rfl) ?_
          refine OpenK.calw (by simp only [go_sem] <;> rfl) (hc x y) (by assumption) (by simp only [go_sem, hg1, t1, t2, fl, fx, fy] <;> rfl) (by simp only [go_sem, hg1, t1, t2, fl, fx, fy] <;> rfl) (by exact ⟨by first | exact WkR.pure rfl | exact WkR.nil _ | exact WkR.int (by omega), by first | exact WkR.pure rfl | exact WkR.nil _ | exact WkR.int (by omega), wkr_caps _ _ _⟩) (fr0) (by simp only [go_sem, hg1, t1, t2, fl, fx, fy] <;> rfl) (by simp only [go_sem] <;> rfl) (by simp only [go_sem] <;> rfl) ?_
          refine OpenK.yes (by simp only [go_sem] <;> rfl) (by simp only [go_sem, hg1, t1, t2, fl, fx, fy] <;> rfl) (by simp only [go_sem] <;> rfl) (by simp only [go_sem] <;> rfl) ?_
          refine OpenK.op (by simp only [go_sem, hg1, t1, t2, fl, fx, fy] <;> rfl) (by simp only [go_sem] <;> rfl) (by simp only [go_sem] <;> rfl) ?_
          refine OpenK.nil (OpenE.finT (by kernel_rfl) (by kernel_rfl) (by kernel_rfl) ?_)
          refine Exec.cndS (by simp only [go_sem, hg1, t1, t2, fl, fx, fy] <;> rfl) (fun hb34 => ?_) (fun hb34 => ?_)
          · skip
            have hl : lt x y = true := by rw [← hlt]; exact hb34
            have hXn : scanE lt x (isortE lt (s.take (k + 1))) (k + 1) = scanE lt x (isortE lt (s.take (k + 1))) (k + 1 - (j + 1)) := by rw [Xj, hcj, scanE_yes hy hl, hcj2]
            have fset : Lt p (isortE lt (s.take (k + 1))) (s.drop (k + 2) ++ q) x (k + 1 - (j + 1)) = ((Lt p (isortE lt (s.take (k + 1))) (s.drop (k + 2) ++ q) x (k + 1 - j)).set (p.length + (k + 1 - j)) y).set (p.length + (k - j)) x := by
              have := Lt_set (p := p) (r := s.drop (k + 2) ++ q) (x := x) hy
              rw [hcj, hcj2]; exact this.symm
            have hne : p.length + (k + 1 - j) ≠ p.length + (k - j) := by omega
            refine Exec.skipS ?_
            refine Exec.blk ?_
            refine Exec.opk1 20 ?_
            refine OpenK.op (by simp only [go_sem, hg1, t1, t2, fl, fx, fy, List.getElem?_set_ne hne] <;> rfl) (by simp only [go_sem] <;> rfl) (by simp only [go_sem] <;> rfl) ?_
            refine OpenK.op (by simp only [go_sem, hg1, t1, t2, fl, fx, fy, List.getElem?_set_ne hne] <;> rfl) (by simp only [go_sem] <;> rfl) (by simp only [go_sem] <;> rfl) ?_
            refine OpenK.op (by simp only [go_sem, hg1, t1, t2, fl, fx, fy, List.getElem?_set_ne hne] <;> rfl) (by simp only [go_sem] <;> rfl) (by simp only [go_sem] <;> rfl) ?_
            refine OpenK.op (by simp only [go_sem, hg1, t1, t2, fl, fx, fy, List.getElem?_set_ne hne] <;> rfl) (by simp only [go_sem] <;> rfl) (by simp only [go_sem] <;> rfl) ?_
            refine OpenK.op (by simp only [go_sem, hg1, t1, t2, fl, fx, fy, List.getElem?_set_ne hne]; (try simp (disch := omega) only [IntWalk.i64_in, IntWalk.u64_in, if_neg, if_pos])<;> rfl) (by simp only [go_sem] <;> rfl) (by simp only [go_sem] <;> rfl) ?_
            refine OpenK.op (by simp only [go_sem, hg1, t1, t2, fl, fx, fy, List.getElem?_set_ne hne] <;> rfl) (by simp only [go_sem] <;> rfl) (by simp only [go_sem] <;> rfl) ?_
            refine OpenK.op (by simp only [go_sem, hg1, t1, t2, fl, fx, fy, List.getElem?_set_ne hne] <;> rfl) (by simp only [go_sem] <;> rfl) (by simp only [go_sem] <;> rfl) ?_
            refine OpenK.op (by simp only [go_sem, hg1, t1, t2, fl, fx, fy, List.getElem?_set_ne hne]; (try simp (disch := omega) only [IntWalk.i64_in, IntWalk.u64_in, if_neg, if_pos])<;> rfl) (by simp only [go_sem] <;> rfl) (by simp only [go_sem] <;> rfl) ?_
            refine OpenK.op (by simp only [go_sem, hg1, t1, t2, fl, fx, fy, List.getElem?_set_ne hne]; (try simp (disch := omega) only [if_pos]); (try simp only [go_sem, hg1, t1, t2, fl, fx, fy, List.getElem?_set_ne hne])<;> rfl) (by simp only [go_sem] <;> rfl) (by simp only [go_sem] <;> rfl) ?_
            refine OpenK.op (by simp only [go_sem, hg1, t1, t2, fl, fx, fy, List.getElem?_set_ne hne] <;> rfl) (by simp only [go_sem] <;> rfl) (by simp only [go_sem] <;> rfl) ?_
            refine OpenK.op (by simp only [go_sem, hg1, t1, t2, fl, fx, fy, List.getElem?_set_ne hne] <;> rfl) (by simp only [go_sem] <;> rfl) (by simp only [go_sem] <;> rfl) ?_
            refine OpenK.op (by simp only [go_sem, hg1, t1, t2, fl, fx, fy, List.getElem?_set_ne hne] <;> rfl) (by simp only [go_sem] <;> rfl) (by simp only [go_sem] <;> rfl) ?_
            refine OpenK.op (by simp only [go_sem, hg1, t1, t2, fl, fx, fy, List.getElem?_set_ne hne]; (try simp (disch := omega) only [if_pos]); (try simp only [go_sem, hg1, t1, t2, fl, fx, fy, List.getElem?_set_ne hne])<;> rfl) (by simp only [go_sem] <;> rfl) (by simp only [go_sem] <;> rfl) ?_
            refine OpenK.op (by simp only [go_sem, hg1, t1, t2, fl, fx, fy, List.getElem?_set_ne hne] <;> rfl) (by simp only [go_sem] <;> rfl) (by simp only [go_sem] <;> rfl) ?_
            refine OpenK.op (by simp only [go_sem, hg1, t1, t2, fl, fx, fy, List.getElem?_set_ne hne]; (try simp (disch := omega) only [if_pos]); (try simp only [go_sem, hg1, t1, t2, fl, fx, fy, List.getElem?_set_ne hne])<;> rfl) (by simp only [go_sem] <;> rfl) (by simp only [go_sem] <;> rfl) ?_
            refine OpenK.op (by simp only [go_sem, hg1, t1, t2, fl, fx, fy, List.getElem?_set_ne hne] <;> rfl) (by simp only [go_sem] <;> rfl) (by simp only [go_sem] <;> rfl) ?_
            refine OpenK.op (by simp only [go_sem, hg1, t1, t2, fl, fx, fy, List.getElem?_set_ne hne]; (try simp (disch := omega) only [if_pos]); (try simp only [go_sem, hg1, t1, t2, fl, fx, fy, List.getElem?_set_ne hne])<;> rfl) (by simp only [go_sem] <;> rfl) (by simp only [go_sem] <;> rfl) ?_
            refine OpenK.op (by simp only [go_sem, hg1, t1, t2, fl, fx, fy, List.getElem?_set_ne hne] <;> rfl) (by simp only [go_sem] <;> rfl) (by simp only [go_sem] <;> rfl) ?_
            refine OpenK.nil (OpenE.finT (by kernel_rfl) (by kernel_rfl) (by kernel_rfl) ?_)
            refine BlkK.nrm ?_
            refine Exec.reg1 ?_
            refine Run.op (by simp only [go_sem, hg1, t1, t2, fl, fx, fy, List.getElem?_set_ne hne] <;> rfl) (by simp only [go_sem] <;> rfl) ?_
            refine Run.op (by simp only [go_sem, hg1, t1, t2, fl, fx, fy, List.getElem?_set_ne hne]; (try simp (disch := omega) only [IntWalk.i64_in, IntWalk.u64_in, if_neg, if_pos])<;> rfl) (by simp only [go_sem] <;> rfl) ?_
            refine Run.op (by simp only [go_sem, hg1, t1, t2, fl, fx, fy, List.getElem?_set_ne hne] <;> rfl) (by simp only [go_sem] <;> rfl) ?_
            refine Run.nil ?_
            refine ForK.nxt ?_ ?_ ?_
            · omega
            · exact Ghost.kp [0, 1, 2, 3, 8, 9] [900] (by simp only [go_sem, hg1, t1, t2, fl, fx, fy, List.getElem?_set_ne hne]; first | ((repeat' (first | with_reducible_and_instances rfl | refine st_eq ?_ ?_ ?_ | refine ret_eq ?_ | refine tup_eq ?_ | refine tm_eq ?_ ?_ | refine arr_eq ?_ | refine cells_eq ?_ | refine val_eq ?_ | refine ls_eq ?_ ?_ | refine own_eq ?_ ?_ | refine sl_eq ?_ | refine b_eq ?_ | (refine i_eq ?_; omega))); (rw [fset, List.map_set, List.map_set]; rfl)) | rfl)
            · exact hXn
          · skip
            have hl : lt x y = false := by rw [← hlt]; exact hb34
            have hsc : scanE lt x (isortE lt (s.take (k + 1))) (k + 1) = k + 1 - j := by rw [Xj, hcj, scanE_no hy hl]
            have en : p ++ (isortE lt (s.take (k + 1 + 1)) ++ s.drop (k + 1 + 1)) ++ q = Lt p (isortE lt (s.take (k + 1))) (s.drop (k + 2) ++ q) x (k + 1 - j) := by
              have ht2 : s.take (k + 1 + 1) = s.take (k + 1) ++ [x] := by rw [List.take_succ, hx]; rfl
              rw [← hsc, ht2, isortE_snoc]
              have := Lt_ins (lt := lt) (p := p) (t := isortE lt (s.take (k + 1))) (r := s.drop (k + 2) ++ q) (x := x)
              rw [htl] at this
              rw [this]; simp
            refine Exec.exitS ?_
            refine ForK.ext ?_
            refine Blk1K.hit ?_
            refine BlkK.nrm ?_
            refine Exec.reg1 ?_
            refine Run.op (by simp only [go_sem, hg1, t1, t2, fl, fx, fy, en] <;> rfl) (by simp only [go_sem] <;> rfl) ?_
            refine Run.op (by simp only [go_sem, hg1, t1, t2, fl, fx, fy, en]; (try simp (disch := omega) only [IntWalk.i64_in, IntWalk.u64_in, if_neg, if_pos])<;> rfl) (by simp only [go_sem] <;> rfl) ?_
            refine Run.op (by simp only [go_sem, hg1, t1, t2, fl, fx, fy, en] <;> rfl) (by simp only [go_sem] <;> rfl) ?_
            refine Run.nil ?_
            refine ForK.nxt ?_ ?_ ?_
            · omega
            · exact Ghost.kp [0, 1, 2, 3, 8] [900] (by simp only [go_sem, hg1, t1, t2, fl, fx, fy, en]; first | ((repeat' (first | with_reducible_and_instances rfl | refine st_eq ?_ ?_ ?_ | refine ret_eq ?_ | refine tup_eq ?_ | refine tm_eq ?_ ?_ | refine arr_eq ?_ | refine cells_eq ?_ | refine val_eq ?_ | refine ls_eq ?_ ?_ | refine own_eq ?_ ?_ | refine sl_eq ?_ | refine b_eq ?_ | (refine i_eq ?_; omega))); done) | rfl)
            · trivial
        · skip
          have hg1 : decide ((p.length : Int) + 1 + k - j > p.length) = false := by simp; omega
          refine Exec.opk 19 ?_
          refine OpenK.op (by simp only [go_sem, hg1] <;> rfl) (by simp only [go_sem] <;> rfl) (by simp only [go_sem] <;> rfl) ?_
          refine OpenK.op (by simp only [go_sem, hg1] <;> rfl) (by simp only [go_sem] <;> rfl) (by simp only [go_sem] <;> rfl) ?_
          refine OpenK.op (by simp only [go_sem, hg1] <;> rfl) (by simp only [go_sem] <;> rfl) (by simp only [go_sem] <;> rfl) ?_
          refine OpenK.op (by simp only [go_sem, hg1] <;> rfl) (by simp only [go_sem] <;> rfl) (by simp only [go_sem] <;> rfl) ?_
          refine OpenK.skp (by simp only [go_sem] <;> rfl) (by simp only [go_sem] <;> rfl) (by simp only [go_sem] <;> rfl) ?_
          refine OpenK.skp (by simp only [go_sem] <;> rfl) (by simp only [go_sem] <;> rfl) (by simp only [go_sem] <;> rfl) ?_
          refine OpenK.skp (by simp only [go_sem] <;> rfl) (by simp only [go_sem] <;> rfl) (by simp only [go_sem] <;> rfl) ?_
          refine OpenK.skp (by simp only [go_sem] <;> rfl) (by simp only [go_sem] <;> rfl) (by simp only [go_sem] <;> rfl) ?_
          refine OpenK.skp (by simp only [go_sem] <;> rfl) (by simp only [go_sem] <;> rfl) (by simp only [go_sem] <;> rfl) ?_
          refine OpenK.skp (by simp only [go_sem] <;> rfl) (by simp only [go_sem] <;> rfl) (by simp only [go_sem] <;> rfl) ?_
          refine OpenK.skp (by simp only [go_sem] <;> rfl) (by simp only [go_sem] <;> rfl) (by simp only [go_sem] <;> rfl) ?_
          refine OpenK.skp (by simp only [go_sem] <;> rfl) (by simp only [go_sem] <;> rfl) (by simp only [go_sem] <;> rfl) ?_
          refine OpenK.skp (by simp only [go_sem] <;> rfl) (by simp only [go_sem] <;> rfl) (by simp only [go_sem] <;> rfl) ?_
          refine OpenK.skp (by simp only [go_sem] <;> rfl) (by simp only [go_sem] <;> rfl) (by simp only [go_sem] <;> rfl) ?_
          refine OpenK.skp (by simp only [go_sem] <;> rfl) (by simp only [go_sem] <;> rfl) (by simp only [go_sem] <;> rfl) ?_
          refine OpenK.skp (by simp only [go_sem] <;> rfl) (by simp only [go_sem] <;> rfl) (by simp only [go_sem] <;> rfl) ?_
          refine OpenK.op (by simp only [go_sem, hg1] <;> rfl) (by simp only [go_sem] <;> rfl) (by simp only [go_sem] <;> rfl) ?_
          refine OpenK.nil (OpenE.finT (by kernel_rfl) (by kernel_rfl) (by kernel_rfl) ?_)
          refine Exec.cndS (by simp only [go_sem, hg1] <;> rfl) (fun hb34 => ?_) (fun hb34 => ?_)
          · exact absurd hb34 (by simp)
          · skip
            have hsc : scanE lt x (isortE lt (s.take (k + 1))) (k + 1) = k + 1 - j := by rw [Xj, show k + 1 - j = 0 by omega]; rfl
            have en : p ++ (isortE lt (s.take (k + 1 + 1)) ++ s.drop (k + 1 + 1)) ++ q = Lt p (isortE lt (s.take (k + 1))) (s.drop (k + 2) ++ q) x (k + 1 - j) := by
              have ht2 : s.take (k + 1 + 1) = s.take (k + 1) ++ [x] := by rw [List.take_succ, hx]; rfl
              rw [← hsc, ht2, isortE_snoc]
              have := Lt_ins (lt := lt) (p := p) (t := isortE lt (s.take (k + 1))) (r := s.drop (k + 2) ++ q) (x := x)
              rw [htl] at this
              rw [this]; simp
            refine Exec.exitS ?_
            refine ForK.ext ?_
            refine Blk1K.hit ?_
            refine BlkK.nrm ?_
            refine Exec.reg1 ?_
            refine Run.op (by simp only [go_sem, hg1, en] <;> rfl) (by simp only [go_sem] <;> rfl) ?_
            refine Run.op (by simp only [go_sem, hg1, en]; (try simp (disch := omega) only [IntWalk.i64_in, IntWalk.u64_in, if_neg, if_pos])<;> rfl) (by simp only [go_sem] <;> rfl) ?_
            refine Run.op (by simp only [go_sem, hg1, en] <;> rfl) (by simp only [go_sem] <;> rfl) ?_
            refine Run.nil ?_
            refine ForK.nxt ?_ ?_ ?_
            · omega
            · exact Ghost.kp [0, 1, 2, 3, 8] [900] (by simp only [go_sem, hg1, en]; first | ((repeat' (first | with_reducible_and_instances rfl | refine st_eq ?_ ?_ ?_ | refine ret_eq ?_ | refine tup_eq ?_ | refine tm_eq ?_ ?_ | refine arr_eq ?_ | refine cells_eq ?_ | refine val_eq ?_ | refine ls_eq ?_ ?_ | refine own_eq ?_ ?_ | refine sl_eq ?_ | refine b_eq ?_ | (refine i_eq ?_; omega))); done) | rfl)
            · trivial
    · skip
      have hk1 : s.length ≤ k + 1 := by have := of_decide_eq_false hb14; omega
      have e : p ++ (isortE lt (s.take (k + 1)) ++ s.drop (k + 1)) ++ q = p ++ isortE lt s ++ q := by rw [List.take_of_length_le hk1, List.drop_eq_nil_of_le hk1, List.append_nil]
      refine Exec.exitS ?_
      refine ForK.ext ?_
      refine Blk1K.hit ?_
      exact Ends.fin0 [900] (rs := []) rfl (by simp only [go_sem, e] <;> rfl) (by simp only [go_sem, e] <;> first | rfl | ((repeat' (first | with_reducible_and_instances rfl | refine st_eq ?_ ?_ ?_ | refine ret_eq ?_ | refine tup_eq ?_ | refine tm_eq ?_ ?_ | refine arr_eq ?_ | refine cells_eq ?_ | refine val_eq ?_ | refine ls_eq ?_ ?_ | refine own_eq ?_ ?_ | refine sl_eq ?_ | refine b_eq ?_ | (refine i_eq ?_; omega))); done))

set_option maxRecDepth 20000 in
/-- cmp.isNaN[int] -/
theorem c_isNaN (n : Int) : Contract Try.prog 57 [.int n] (.bool false) [] := by
  refine con_of follows_mixed Try.func57 rfl (by simp only [List.length_cons, List.length_nil, Try.ntmps57]; omega) (by kernel_rfl) rfl ?_
  refine Exec.reg ?_
  refine Run.op (by simp only [go_sem, bne_self_eq_false] <;> rfl) (by simp only [go_sem] <;> rfl) ?_
  refine Run.nil ?_
  refine Exec.reg ?_
  iterate 4 (refine Run.op (by simp only [go_sem, bne_self_eq_false] <;> rfl) (by simp only [go_sem] <;> rfl) ?_)
  refine Run.nil ?_
  exact Ends.fin [] (rs := [.tmp 2]) rfl (by simp only [go_sem, bne_self_eq_false] <;> rfl) (by simp only [go_sem, bne_self_eq_false] <;> first | rfl | ((repeat' (first | with_reducible_and_instances rfl | refine st_eq ?_ ?_ ?_ | refine ret_eq ?_ | refine tup_eq ?_ | refine tm_eq ?_ ?_ | refine arr_eq ?_ | refine cells_eq ?_ | refine val_eq ?_ | refine ls_eq ?_ ?_ | refine own_eq ?_ ?_ | refine sl_eq ?_ | refine b_eq ?_ | (refine i_eq ?_; omega))); done))

def cmpI (a b : Int) : Int := if a < b then -1 else if a > b then 1 else 0
set_option maxRecDepth 20000 in
/-- cmp.Compare[int] -/
theorem c_Compare (a b : Int) : Contract Try.prog 46 [.int a, .int b] (.int (cmpI a b)) [] := by
  refine con_of follows_mixed Try.func46 rfl (by simp only [List.length_cons, List.length_nil, Try.ntmps46]; omega) (by kernel_rfl) rfl ?_
  refine Exec.reg ?_
  refine Run.op (by simp only [go_sem] <;> rfl) (by simp only [go_sem] <;> rfl) ?_
  refine Run.nil ?_
  refine Exec.reg ?_
  refine Run.op (by simp only [go_sem] <;> rfl) (by simp only [go_sem] <;> rfl) ?_
  refine Run.cal (c_isNaN _) (by simp only [go_sem]) (by simp only [go_sem] <;> rfl) (by exact ⟨by first | exact WkR.pure rfl | exact WkR.nil _ | exact WkR.int (by first | omega | (simp; done) | (simp; omega)), trivial⟩) (fr0) (by simp only [go_sem] <;> rfl) ?_
  refine Run.op (by simp only [go_sem] <;> rfl) (by simp only [go_sem] <;> rfl) ?_
  refine Run.nil ?_
  refine Exec.reg ?_
  refine Run.op (by simp only [go_sem] <;> rfl) (by simp only [go_sem] <;> rfl) ?_
  refine Run.cal (c_isNaN _) (by simp only [go_sem]) (by simp only [go_sem] <;> rfl) (by exact ⟨by first | exact WkR.pure rfl | exact WkR.nil _ | exact WkR.int (by first | omega | (simp; done) | (simp; omega)), trivial⟩) (fr0) (by simp only [go_sem] <;> rfl) ?_
  refine Run.op (by simp only [go_sem] <;> rfl) (by simp only [go_sem] <;> rfl) ?_
  refine Run.nil ?_
  refine Exec.assocS ?_
  refine Exec.reg ?_
  refine Run.op (by simp only [go_sem] <;> rfl) (by simp only [go_sem] <;> rfl) ?_
  refine Run.nil ?_
  refine Exec.cndS (by simp only [go_sem] <;> rfl) (fun hb11 => ?_) (fun hb11 => ?_)
  · exact absurd hb11 (by simp)
  · skip
    refine Exec.skipS ?_
    refine Exec.assocS ?_
    refine Exec.reg ?_
    refine Run.op (by simp only [go_sem] <;> rfl) (by simp only [go_sem] <;> rfl) ?_
    refine Run.nil ?_
    refine Exec.cndS (by simp only [go_sem] <;> rfl) (fun hb13 => ?_) (fun hb13 => ?_)
    · exact absurd hb13 (by simp)
    · skip
      refine Exec.skipS ?_
      refine Exec.assocS ?_
      refine Exec.reg ?_
      iterate 3 (refine Run.op (by simp only [go_sem] <;> rfl) (by simp only [go_sem] <;> rfl) ?_)
      refine Run.nil ?_
      refine Exec.cndS (by simp only [go_sem] <;> rfl) (fun hb16 => ?_) (fun hb16 => ?_)
      · skip
        have hr : cmpI a b = -1 := if_pos (of_decide_eq_true hb16)
        refine Exec.assocS ?_
        refine Exec.reg ?_
        refine Run.op (by simp only [go_sem, hr] <;> rfl) (by simp only [go_sem] <;> rfl) ?_
        refine Run.nil ?_
        refine Exec.retS ?_
        exact Ends.fin [] (rs := [.tmp 4]) rfl (by simp only [go_sem, hr] <;> rfl) (by simp only [go_sem, hr] <;> first | rfl | ((repeat' (first | with_reducible_and_instances rfl | refine st_eq ?_ ?_ ?_ | refine ret_eq ?_ | refine tup_eq ?_ | refine tm_eq ?_ ?_ | refine arr_eq ?_ | refine cells_eq ?_ | refine val_eq ?_ | refine ls_eq ?_ ?_ | refine own_eq ?_ ?_ | refine sl_eq ?_ | refine b_eq ?_ | (refine i_eq ?_; omega))); done))
      · skip
        refine Exec.skipS ?_
        refine Exec.assocS ?_
        refine Exec.reg ?_
        iterate 3 (refine Run.op (by simp only [go_sem] <;> rfl) (by simp only [go_sem] <;> rfl) ?_)
        refine Run.nil ?_
        refine Exec.cndS (by simp only [go_sem] <;> rfl) (fun hb19 => ?_) (fun hb19 => ?_)
        · skip
          have hr : cmpI a b = 1 := by have h1 := of_decide_eq_false hb16; have h2 := of_decide_eq_true hb19; rw [cmpI, if_neg h1, if_pos h2]
          refine Exec.assocS ?_
          refine Exec.reg ?_
          refine Run.op (by simp only [go_sem, hr] <;> rfl) (by simp only [go_sem] <;> rfl) ?_
          refine Run.nil ?_
          refine Exec.retS ?_
          exact Ends.fin [] (rs := [.tmp 4]) rfl (by simp only [go_sem, hr] <;> rfl) (by simp only [go_sem, hr] <;> first | rfl | ((repeat' (first | with_reducible_and_instances rfl | refine st_eq ?_ ?_ ?_ | refine ret_eq ?_ | refine tup_eq ?_ | refine tm_eq ?_ ?_ | refine arr_eq ?_ | refine cells_eq ?_ | refine val_eq ?_ | refine ls_eq ?_ ?_ | refine own_eq ?_ ?_ | refine sl_eq ?_ | refine b_eq ?_ | (refine i_eq ?_; omega))); done))
        · skip
          have hr : cmpI a b = 0 := by have h1 := of_decide_eq_false hb16; have h2 := of_decide_eq_false hb19; rw [cmpI, if_neg h1, if_neg h2]
          refine Exec.skipS ?_
          refine Exec.reg ?_
          refine Run.op (by simp only [go_sem, hr] <;> rfl) (by simp only [go_sem] <;> rfl) ?_
          refine Run.nil ?_
          exact Ends.fin [] (rs := [.tmp 4]) rfl (by simp only [go_sem, hr] <;> rfl) (by simp only [go_sem, hr] <;> first | rfl | ((repeat' (first | with_reducible_and_instances rfl | refine st_eq ?_ ?_ ?_ | refine ret_eq ?_ | refine tup_eq ?_ | refine tm_eq ?_ ?_ | refine arr_eq ?_ | refine cells_eq ?_ | refine val_eq ?_ | refine ls_eq ?_ ?_ | refine own_eq ?_ ?_ | refine sl_eq ?_ | refine b_eq ?_ | (refine i_eq ?_; omega))); done))

set_option maxRecDepth 20000 in
/-- meterworks/drum.Fit_2 -/
theorem c_Fit_2 (a b : Go.Dr.Span) : Contract Try.prog 45 [spanV a, spanV b] (.int (cmpS a b)) [] := by
  have e : cmpI a.lo b.lo = cmpS a b := rfl
  refine con_of follows_mixed Try.func45 rfl (by simp only [List.length_cons, List.length_nil, Try.ntmps45]; omega) (by kernel_rfl) rfl ?_
  refine Exec.reg ?_
  iterate 3 (refine Run.op (by simp only [go_sem, e] <;> rfl) (by simp only [go_sem] <;> rfl) ?_)
  refine Run.nil ?_
  refine Exec.reg ?_
  iterate 4 (refine Run.op (by simp only [go_sem, e] <;> rfl) (by simp only [go_sem] <;> rfl) ?_)
  refine Run.cal (c_Compare _ _) (by simp only [go_sem]) (by simp only [go_sem, e] <;> rfl) (by exact ⟨by first | exact WkR.pure rfl | exact WkR.nil _ | exact WkR.int (by first | omega | (simp; done) | (simp; omega)), by first | exact WkR.pure rfl | exact WkR.nil _ | exact WkR.int (by first | omega | (simp; done) | (simp; omega)), trivial⟩) (fr0) (by simp only [go_sem, e] <;> rfl) ?_
  refine Run.op (by simp only [go_sem, e] <;> rfl) (by simp only [go_sem] <;> rfl) ?_
  refine Run.nil ?_
  exact Ends.fin [] (rs := [.tmp 4]) rfl (by simp only [go_sem, e] <;> rfl) (by simp only [go_sem, e] <;> first | rfl | ((repeat' (first | with_reducible_and_instances rfl | refine st_eq ?_ ?_ ?_ | refine ret_eq ?_ | refine tup_eq ?_ | refine tm_eq ?_ ?_ | refine arr_eq ?_ | refine cells_eq ?_ | refine val_eq ?_ | refine ls_eq ?_ ?_ | refine own_eq ?_ ?_ | refine sl_eq ?_ | refine b_eq ?_ | (refine i_eq ?_; omega))); done))

def lenB (n : Nat) : Int := if n = 0 then 0 else if n = 1 then 1 else if n ≤ 3 then 2 else if n ≤ 7 then 3 else 4
set_option maxRecDepth 20000 in
set_option maxHeartbeats 4000000 in
/-- math/bits.Len64 -/
theorem c_Len64 (n : Nat) (hn : n ≤ 12) : Contract Try.prog 70 [.raw (.int .u64 (n : Int))] (.int (lenB n)) [] := by
  rcases (show n = 0 ∨ n = 1 ∨ n = 2 ∨ n = 3 ∨ n = 4 ∨ n = 5 ∨ n = 6 ∨ n = 7 ∨ n = 8 ∨ n = 9 ∨ n = 10 ∨ n = 11 ∨ n = 12 from by omega) with rfl | rfl | rfl | rfl | rfl | rfl | rfl | rfl | rfl | rfl | rfl | rfl | rfl
  · skip
    refine con_of follows_mixed Try.func70 rfl (by simp only [List.length_cons, List.length_nil, Try.ntmps70]; omega) (by kernel_rfl) rfl ?_
    refine Exec.reg ?_
    refine Run.op (by simp only [go_sem] <;> rfl) (by simp only [go_sem] <;> rfl) ?_
    refine Run.nil ?_
    refine Exec.assocS ?_
    refine Exec.reg ?_
    iterate 2 (refine Run.op (by simp only [go_sem] <;> rfl) (by simp only [go_sem] <;> rfl) ?_)
    refine Run.nil ?_
    refine Exec.cndS (by simp only [go_sem] <;> rfl) (fun hb4 => ?_) (fun hb4 => ?_)
    · skip
      exact absurd hb4 (by decide)
    · skip
      refine Exec.skipS ?_
      refine Exec.assocS ?_
      refine Exec.reg ?_
      iterate 2 (refine Run.op (by simp only [go_sem] <;> rfl) (by simp only [go_sem] <;> rfl) ?_)
      refine Run.nil ?_
      refine Exec.cndS (by simp only [go_sem] <;> rfl) (fun hb8 => ?_) (fun hb8 => ?_)
      · skip
        exact absurd hb8 (by decide)
      · skip
        refine Exec.skipS ?_
        refine Exec.assocS ?_
        refine Exec.reg ?_
        iterate 2 (refine Run.op (by simp only [go_sem] <;> rfl) (by simp only [go_sem] <;> rfl) ?_)
        refine Run.nil ?_
        refine Exec.cndS (by simp only [go_sem] <;> rfl) (fun hb14 => ?_) (fun hb14 => ?_)
        · skip
          exact absurd hb14 (by decide)
        · skip
          refine Exec.skipS ?_
          refine Exec.reg ?_
          iterate 2 (refine Run.op (by simp only [go_sem] <;> rfl) (by simp only [go_sem] <;> rfl) ?_)
          refine Run.op (by simp only [go_sem]; (try simp (disch := omega) only [IntWalk.i64_in, IntWalk.u64_in, if_neg, if_pos])<;> rfl) (by simp only [go_sem] <;> rfl) ?_
          refine Run.op (by simp only [go_sem] <;> rfl) (by simp only [go_sem] <;> rfl) ?_
          refine Run.op (by simp only [go_sem]; (try simp (disch := omega) only [IntWalk.i64_in, IntWalk.u64_in, if_neg, if_pos])<;> rfl) (by simp only [go_sem] <;> rfl) ?_
          refine Run.op (by simp only [go_sem]; (try simp (disch := omega) only [IntWalk.i64_in, IntWalk.u64_in, if_neg, if_pos])<;> rfl) (by simp only [go_sem] <;> rfl) ?_
          refine Run.op (by simp only [go_sem] <;> rfl) (by simp only [go_sem] <;> rfl) ?_
          refine Run.nil ?_
          exact Ends.fin [] (rs := [.tmp 2]) rfl (by simp only [go_sem] <;> rfl) (by simp only [go_sem] <;> first | rfl | ((repeat' (first | with_reducible_and_instances rfl | refine st_eq ?_ ?_ ?_ | refine ret_eq ?_ | refine tup_eq ?_ | refine tm_eq ?_ ?_ | refine arr_eq ?_ | refine cells_eq ?_ | refine val_eq ?_ | refine ls_eq ?_ ?_ | refine own_eq ?_ ?_ | refine sl_eq ?_ | refine b_eq ?_ | (refine i_eq ?_; omega))); (all_goals kernel_rfl)))
  · skip
    refine con_of follows_mixed Try.func70 rfl (by simp only [List.length_cons, List.length_nil, Try.ntmps70]; omega) (by kernel_rfl) rfl ?_
    refine Exec.reg ?_
    refine Run.op (by simp only [go_sem] <;> rfl) (by simp only [go_sem] <;> rfl) ?_
    refine Run.nil ?_
    refine Exec.assocS ?_
    refine Exec.reg ?_
    iterate 2 (refine Run.op (by simp only [go_sem] <;> rfl) (by simp only [go_sem] <;> rfl) ?_)
    refine Run.nil ?_
    refine Exec.cndS (by simp only [go_sem] <;> rfl) (fun hb4 => ?_) (fun hb4 => ?_)
    · skip
      exact absurd hb4 (by decide)
    · skip
      refine Exec.skipS ?_
      refine Exec.assocS ?_
      refine Exec.reg ?_
      iterate 2 (refine Run.op (by simp only [go_sem] <;> rfl) (by simp only [go_sem] <;> rfl) ?_)
      refine Run.nil ?_
      refine Exec.cndS (by simp only [go_sem] <;> rfl) (fun hb8 => ?_) (fun hb8 => ?_)
      · skip
        exact absurd hb8 (by decide)
      · skip
        refine Exec.skipS ?_
        refine Exec.assocS ?_
        refine Exec.reg ?_
        iterate 2 (refine Run.op (by simp only [go_sem] <;> rfl) (by simp only [go_sem] <;> rfl) ?_)
        refine Run.nil ?_
        refine Exec.cndS (by simp only [go_sem] <;> rfl) (fun hb14 => ?_) (fun hb14 => ?_)
        · skip
          exact absurd hb14 (by decide)
        · skip
          refine Exec.skipS ?_
          refine Exec.reg ?_
          iterate 2 (refine Run.op (by simp only [go_sem] <;> rfl) (by simp only [go_sem] <;> rfl) ?_)
          refine Run.op (by simp only [go_sem]; (try simp (disch := omega) only [IntWalk.i64_in, IntWalk.u64_in, if_neg, if_pos])<;> rfl) (by simp only [go_sem] <;> rfl) ?_
          refine Run.op (by simp only [go_sem] <;> rfl) (by simp only [go_sem] <;> rfl) ?_
          refine Run.op (by simp only [go_sem]; (try simp (disch := omega) only [IntWalk.i64_in, IntWalk.u64_in, if_neg, if_pos])<;> rfl) (by simp only [go_sem] <;> rfl) ?_
          refine Run.op (by simp only [go_sem]; (try simp (disch := omega) only [IntWalk.i64_in, IntWalk.u64_in, if_neg, if_pos])<;> rfl) (by simp only [go_sem] <;> rfl) ?_
          refine Run.op (by simp only [go_sem] <;> rfl) (by simp only [go_sem] <;> rfl) ?_
          refine Run.nil ?_
          exact Ends.fin [] (rs := [.tmp 2]) rfl (by simp only [go_sem] <;> rfl) (by simp only [go_sem] <;> first | rfl | ((repeat' (first | with_reducible_and_instances rfl | refine st_eq ?_ ?_ ?_ | refine ret_eq ?_ | refine tup_eq ?_ | refine tm_eq ?_ ?_ | refine arr_eq ?_ | refine cells_eq ?_ | refine val_eq ?_ | refine ls_eq ?_ ?_ | refine own_eq ?_ ?_ | refine sl_eq ?_ | refine b_eq ?_ | (refine i_eq ?_; omega))); (all_goals kernel_rfl)))
  · skip
    refine con_of follows_mixed Try.func70 rfl (by simp only [List.length_cons, List.length_nil, Try.ntmps70]; omega) (by kernel_rfl) rfl ?_
    refine Exec.reg ?_
    refine Run.op (by simp only [go_sem] <;> rfl) (by simp only [go_sem] <;> rfl) ?_
    refine Run.nil ?_
    refine Exec.assocS ?_
    refine Exec.reg ?_
    iterate 2 (refine Run.op (by simp only [go_sem] <;> rfl) (by simp only [go_sem] <;> rfl) ?_)
    refine Run.nil ?_
    refine Exec.cndS (by simp only [go_sem] <;> rfl) (fun hb4 => ?_) (fun hb4 => ?_)
    · skip
      exact absurd hb4 (by decide)
    · skip
      refine Exec.skipS ?_
      refine Exec.assocS ?_
      refine Exec.reg ?_
      iterate 2 (refine Run.op (by simp only [go_sem] <;> rfl) (by simp only [go_sem] <;> rfl) ?_)
      refine Run.nil ?_
      refine Exec.cndS (by simp only [go_sem] <;> rfl) (fun hb8 => ?_) (fun hb8 => ?_)
      · skip
        exact absurd hb8 (by decide)
      · skip
        refine Exec.skipS ?_
        refine Exec.assocS ?_
        refine Exec.reg ?_
        iterate 2 (refine Run.op (by simp only [go_sem] <;> rfl) (by simp only [go_sem] <;> rfl) ?_)
        refine Run.nil ?_
        refine Exec.cndS (by simp only [go_sem] <;> rfl) (fun hb14 => ?_) (fun hb14 => ?_)
        · skip
          exact absurd hb14 (by decide)
        · skip
          refine Exec.skipS ?_
          refine Exec.reg ?_
          iterate 2 (refine Run.op (by simp only [go_sem] <;> rfl) (by simp only [go_sem] <;> rfl) ?_)
          refine Run.op (by simp only [go_sem]; (try simp (disch := omega) only [IntWalk.i64_in, IntWalk.u64_in, if_neg, if_pos])<;> rfl) (by simp only [go_sem] <;> rfl) ?_
          refine Run.op (by simp only [go_sem] <;> rfl) (by simp only [go_sem] <;> rfl) ?_
          refine Run.op (by simp only [go_sem]; (try simp (disch := omega) only [IntWalk.i64_in, IntWalk.u64_in, if_neg, if_pos])<;> rfl) (by simp only [go_sem] <;> rfl) ?_
          refine Run.op (by simp only [go_sem]; (try simp (disch := omega) only [IntWalk.i64_in, IntWalk.u64_in, if_neg, if_pos])<;> rfl) (by simp only [go_sem] <;> rfl) ?_
          refine Run.op (by simp only [go_sem] <;> rfl) (by simp only [go_sem] <;> rfl) ?_
          refine Run.nil ?_
          exact Ends.fin [] (rs := [.tmp 2]) rfl (by simp only [go_sem] <;> rfl) (by simp only [go_sem] <;> first | rfl | ((repeat' (first | with_reducible_and_instances rfl | refine st_eq ?_ ?_ ?_ | refine ret_eq ?_ | refine tup_eq ?_ | refine tm_eq ?_ ?_ | refine arr_eq ?_ | refine cells_eq ?_ | refine val_eq ?_ | refine ls_eq ?_ ?_ | refine own_eq ?_ ?_ | refine sl_eq ?_ | refine b_eq ?_ | (refine i_eq ?_; omega))); (all_goals kernel_rfl)))
  · skip
    refine con_of follows_mixed Try.func70 rfl (by simp only [List.length_cons, List.length_nil, Try.ntmps70]; omega) (by kernel_rfl) rfl ?_
    refine Exec.reg ?_
    refine Run.op (by simp only [go_sem] <;> rfl) (by simp only [go_sem] <;> rfl) ?_
    refine Run.nil ?_
    refine Exec.assocS ?_
    refine Exec.reg ?_
    iterate 2 (refine Run.op (by simp only [go_sem] <;> rfl) (by simp only [go_sem] <;> rfl) ?_)
    refine Run.nil ?_
    refine Exec.cndS (by simp only [go_sem] <;> rfl) (fun hb4 => ?_) (fun hb4 => ?_)
    · skip
      exact absurd hb4 (by decide)
    · skip
      refine Exec.skipS ?_
      refine Exec.assocS ?_
      refine Exec.reg ?_
      iterate 2 (refine Run.op (by simp only [go_sem] <;> rfl) (by simp only [go_sem] <;> rfl) ?_)
      refine Run.nil ?_
      refine Exec.cndS (by simp only [go_sem] <;> rfl) (fun hb8 => ?_) (fun hb8 => ?_)
      · skip
        exact absurd hb8 (by decide)
      · skip
        refine Exec.skipS ?_
        refine Exec.assocS ?_
        refine Exec.reg ?_
        iterate 2 (refine Run.op (by simp only [go_sem] <;> rfl) (by simp only [go_sem] <;> rfl) ?_)
        refine Run.nil ?_
        refine Exec.cndS (by simp only [go_sem] <;> rfl) (fun hb14 => ?_) (fun hb14 => ?_)
        · skip
          exact absurd hb14 (by decide)
        · skip
          refine Exec.skipS ?_
          refine Exec.reg ?_
          iterate 2 (refine Run.op (by simp only [go_sem] <;> rfl) (by simp only [go_sem] <;> rfl) ?_)
          refine Run.op (by simp only [go_sem]; (try simp (disch := omega) only [IntWalk.i64_in, IntWalk.u64_in, if_neg, if_pos])<;> rfl) (by simp only [go_sem] <;> rfl) ?_
          refine Run.op (by simp only [go_sem] <;> rfl) (by simp only [go_sem] <;> rfl) ?_
          refine Run.op (by simp only [go_sem]; (try simp (disch := omega) only [IntWalk.i64_in, IntWalk.u64_in, if_neg, if_pos])<;> rfl) (by simp only [go_sem] <;> rfl) ?_
          refine Run.op (by simp only [go_sem]; (try simp (disch := omega) only [IntWalk.i64_in, IntWalk.u64_in, if_neg, if_pos])<;> rfl) (by simp only [go_sem] <;> rfl) ?_
          refine Run.op (by simp only [go_sem] <;> rfl) (by simp only [go_sem] <;> rfl) ?_
          refine Run.nil ?_
          exact Ends.fin [] (rs := [.tmp 2]) rfl (by simp only [go_sem] <;> rfl) (by simp only [go_sem] <;> first | rfl | ((repeat' (first | with_reducible_and_instances rfl | refine st_eq ?_ ?_ ?_ | refine ret_eq ?_ | refine tup_eq ?_ | refine tm_eq ?_ ?_ | refine arr_eq ?_ | refine cells_eq ?_ | refine val_eq ?_ | refine ls_eq ?_ ?_ | refine own_eq ?_ ?_ | refine sl_eq ?_ | refine b_eq ?_ | (refine i_eq ?_; omega))); (all_goals kernel_rfl)))
  · skip
    refine con_of follows_mixed Try.func70 rfl (by simp only [List.length_cons, List.length_nil, Try.ntmps70]; omega) (by kernel_rfl) rfl ?_
    refine Exec.reg ?_
    refine Run.op (by simp only [go_sem] <;> rfl) (by simp only [go_sem] <;> rfl) ?_
    refine Run.nil ?_
    refine Exec.assocS ?_
    refine Exec.reg ?_
    iterate 2 (refine Run.op (by simp only [go_sem] <;> rfl) (by simp only [go_sem] <;> rfl) ?_)
    refine Run.nil ?_
    refine Exec.cndS (by simp only [go_sem] <;> rfl) (fun hb4 => ?_) (fun hb4 => ?_)
    · skip
      exact absurd hb4 (by decide)
    · skip
      refine Exec.skipS ?_
      refine Exec.assocS ?_
      refine Exec.reg ?_
      iterate 2 (refine Run.op (by simp only [go_sem] <;> rfl) (by simp only [go_sem] <;> rfl) ?_)
      refine Run.nil ?_
      refine Exec.cndS (by simp only [go_sem] <;> rfl) (fun hb8 => ?_) (fun hb8 => ?_)
      · skip
        exact absurd hb8 (by decide)
      · skip
        refine Exec.skipS ?_
        refine Exec.assocS ?_
        refine Exec.reg ?_
        iterate 2 (refine Run.op (by simp only [go_sem] <;> rfl) (by simp only [go_sem] <;> rfl) ?_)
        refine Run.nil ?_
        refine Exec.cndS (by simp only [go_sem] <;> rfl) (fun hb14 => ?_) (fun hb14 => ?_)
        · skip
          exact absurd hb14 (by decide)
        · skip
          refine Exec.skipS ?_
          refine Exec.reg ?_
          iterate 2 (refine Run.op (by simp only [go_sem] <;> rfl) (by simp only [go_sem] <;> rfl) ?_)
          refine Run.op (by simp only [go_sem]; (try simp (disch := omega) only [IntWalk.i64_in, IntWalk.u64_in, if_neg, if_pos])<;> rfl) (by simp only [go_sem] <;> rfl) ?_
          refine Run.op (by simp only [go_sem] <;> rfl) (by simp only [go_sem] <;> rfl) ?_
          refine Run.op (by simp only [go_sem]; (try simp (disch := omega) only [IntWalk.i64_in, IntWalk.u64_in, if_neg, if_pos])<;> rfl) (by simp only [go_sem] <;> rfl) ?_
          refine Run.op (by simp only [go_sem]; (try simp (disch := omega) only [IntWalk.i64_in, IntWalk.u64_in, if_neg, if_pos])<;> rfl) (by simp only [go_sem] <;> rfl) ?_
          refine Run.op (by simp only [go_sem] <;> rfl) (by simp only [go_sem] <;> rfl) ?_
          refine Run.nil ?_
          exact Ends.fin [] (rs := [.tmp 2]) rfl (by simp only [go_sem] <;> rfl) (by simp only [go_sem] <;> first | rfl | ((repeat' (first | with_reducible_and_instances rfl | refine st_eq ?_ ?_ ?_ | refine ret_eq ?_ | refine tup_eq ?_ | refine tm_eq ?_ ?_ | refine arr_eq ?_ | refine cells_eq ?_ | refine val_eq ?_ | refine ls_eq ?_ ?_ | refine own_eq ?_ ?_ | refine sl_eq ?_ | refine b_eq ?_ | (refine i_eq ?_; omega))); (all_goals kernel_rfl)))
  · skip
    refine con_of follows_mixed Try.func70 rfl (by simp only [List.length_cons, List.length_nil, Try.ntmps70]; omega) (by kernel_rfl) rfl ?_
    refine Exec.reg ?_
    refine Run.op (by simp only [go_sem] <;> rfl) (by simp only [go_sem] <;> rfl) ?_
    refine Run.nil ?_
    refine Exec.assocS ?_
    refine Exec.reg ?_
    iterate 2 (refine Run.op (by simp only [go_sem] <;> rfl) (by simp only [go_sem] <;> rfl) ?_)
    refine Run.nil ?_
    refine Exec.cndS (by simp only [go_sem] <;> rfl) (fun hb4 => ?_) (fun hb4 => ?_)
    · skip
      exact absurd hb4 (by decide)
    · skip
      refine Exec.skipS ?_
      refine Exec.assocS ?_
      refine Exec.reg ?_
      iterate 2 (refine Run.op (by simp only [go_sem] <;> rfl) (by simp only [go_sem] <;> rfl) ?_)
      refine Run.nil ?_
      refine Exec.cndS (by simp only [go_sem] <;> rfl) (fun hb8 => ?_) (fun hb8 => ?_)
      · skip
        exact absurd hb8 (by decide)
      · skip
        refine Exec.skipS ?_
        refine Exec.assocS ?_
        refine Exec.reg ?_
        iterate 2 (refine Run.op (by simp only [go_sem] <;> rfl) (by simp only [go_sem] <;> rfl) ?_)
        refine Run.nil ?_
        refine Exec.cndS (by simp only [go_sem] <;> rfl) (fun hb14 => ?_) (fun hb14 => ?_)
        · skip
          exact absurd hb14 (by decide)
        · skip
          refine Exec.skipS ?_
          refine Exec.reg ?_
          iterate 2 (refine Run.op (by simp only [go_sem] <;> rfl) (by simp only [go_sem] <;> rfl) ?_)
          refine Run.op (by simp only [go_sem]; (try simp (disch := omega) only [IntWalk.i64_in, IntWalk.u64_in, if_neg, if_pos])<;> rfl) (by simp only [go_sem] <;> rfl) ?_
          refine Run.op (by simp only [go_sem] <;> rfl) (by simp only [go_sem] <;> rfl) ?_
          refine Run.op (by simp only [go_sem]; (try simp (disch := omega) only [IntWalk.i64_in, IntWalk.u64_in, if_neg, if_pos])<;> rfl) (by simp only [go_sem] <;> rfl) ?_
          refine Run.op (by simp only [go_sem]; (try simp (disch := omega) only [IntWalk.i64_in, IntWalk.u64_in, if_neg, if_pos])<;> rfl) (by simp only [go_sem] <;> rfl) ?_
          refine Run.op (by simp only [go_sem] <;> rfl) (by simp only [go_sem] <;> rfl) ?_
          refine Run.nil ?_
          exact Ends.fin [] (rs := [.tmp 2]) rfl (by simp only [go_sem] <;> rfl) (by simp only [go_sem] <;> first | rfl | ((repeat' (first | with_reducible_and_instances rfl | refine st_eq ?_ ?_ ?_ | refine ret_eq ?_ | refine tup_eq ?_ | refine tm_eq ?_ ?_ | refine arr_eq ?_ | refine cells_eq ?_ | refine val_eq ?_ | refine ls_eq ?_ ?_ | refine own_eq ?_ ?_ | refine sl_eq ?_ | refine b_eq ?_ | (refine i_eq ?_; omega))); (all_goals kernel_rfl)))
  · skip
    refine con_of follows_mixed Try.func70 rfl (by simp only [List.length_cons, List.length_nil, Try.ntmps70]; omega) (by kernel_rfl) rfl ?_
    refine Exec.reg ?_
    refine Run.op (by simp only [go_sem] <;> rfl) (by simp only [go_sem] <;> rfl) ?_
    refine Run.nil ?_
    refine Exec.assocS ?_
    refine Exec.reg ?_
    iterate 2 (refine Run.op (by simp only [go_sem] <;> rfl) (by simp only [go_sem] <;> rfl) ?_)
    refine Run.nil ?_
    refine Exec.cndS (by simp only [go_sem] <;> rfl) (fun hb4 => ?_) (fun hb4 => ?_)
    · skip
      exact absurd hb4 (by decide)
    · skip
      refine Exec.skipS ?_
      refine Exec.assocS ?_
      refine Exec.reg ?_
      iterate 2 (refine Run.op (by simp only [go_sem] <;> rfl) (by simp only [go_sem] <;> rfl) ?_)
      refine Run.nil ?_
      refine Exec.cndS (by simp only [go_sem] <;> rfl) (fun hb8 => ?_) (fun hb8 => ?_)
      · skip
        exact absurd hb8 (by decide)
      · skip
        refine Exec.skipS ?_
        refine Exec.assocS ?_
        refine Exec.reg ?_
        iterate 2 (refine Run.op (by simp only [go_sem] <;> rfl) (by simp only [go_sem] <;> rfl) ?_)
        refine Run.nil ?_
        refine Exec.cndS (by simp only [go_sem] <;> rfl) (fun hb14 => ?_) (fun hb14 => ?_)
        · skip
          exact absurd hb14 (by decide)
        · skip
          refine Exec.skipS ?_
          refine Exec.reg ?_
          iterate 2 (refine Run.op (by simp only [go_sem] <;> rfl) (by simp only [go_sem] <;> rfl) ?_)
          refine Run.op (by simp only [go_sem]; (try simp (disch := omega) only [IntWalk.i64_in, IntWalk.u64_in, if_neg, if_pos])<;> rfl) (by simp only [go_sem] <;> rfl) ?_
          refine Run.op (by simp only [go_sem] <;> rfl) (by simp only [go_sem] <;> rfl) ?_
          refine Run.op (by simp only [go_sem]; (try simp (disch := omega) only [IntWalk.i64_in, IntWalk.u64_in, if_neg, if_pos])<;> rfl) (by simp only [go_sem] <;> rfl) ?_
          refine Run.op (by simp only [go_sem]; (try simp (disch := omega) only [IntWalk.i64_in, IntWalk.u64_in, if_neg, if_pos])<;> rfl) (by simp only [go_sem] <;> rfl) ?_
          refine Run.op (by simp only [go_sem] <;> rfl) (by simp only [go_sem] <;> rfl) ?_
          refine Run.nil ?_
          exact Ends.fin [] (rs := [.tmp 2]) rfl (by simp only [go_sem] <;> rfl) (by simp only [go_sem] <;> first | rfl | ((repeat' (first | with_reducible_and_instances rfl | refine st_eq ?_ ?_ ?_ | refine ret_eq ?_ | refine tup_eq ?_ | refine tm_eq ?_ ?_ | refine arr_eq ?_ | refine cells_eq ?_ | refine val_eq ?_ | refine ls_eq ?_ ?_ | refine own_eq ?_ ?_ | refine sl_eq ?_ | refine b_eq ?_ | (refine i_eq ?_; omega))); (all_goals kernel_rfl)))
  · skip
    refine con_of follows_mixed Try.func70 rfl (by simp only [List.length_cons, List.length_nil, Try.ntmps70]; omega) (by kernel_rfl) rfl ?_
    refine Exec.reg ?_
    refine Run.op (by simp only [go_sem] <;> rfl) (by simp only [go_sem] <;> rfl) ?_
    refine Run.nil ?_
    refine Exec.assocS ?_
    refine Exec.reg ?_
    iterate 2 (refine Run.op (by simp only [go_sem] <;> rfl) (by simp only [go_sem] <;> rfl) ?_)
    refine Run.nil ?_
    refine Exec.cndS (by simp only [go_sem] <;> rfl) (fun hb4 => ?_) (fun hb4 => ?_)
    · skip
      exact absurd hb4 (by decide)
    · skip
      refine Exec.skipS ?_
      refine Exec.assocS ?_
      refine Exec.reg ?_
      iterate 2 (refine Run.op (by simp only [go_sem] <;> rfl) (by simp only [go_sem] <;> rfl) ?_)
      refine Run.nil ?_
      refine Exec.cndS (by simp only [go_sem] <;> rfl) (fun hb8 => ?_) (fun hb8 => ?_)
      · skip
        exact absurd hb8 (by decide)
      · skip
        refine Exec.skipS ?_
        refine Exec.assocS ?_
        refine Exec.reg ?_
        iterate 2 (refine Run.op (by simp only [go_sem] <;> rfl) (by simp only [go_sem] <;> rfl) ?_)
        refine Run.nil ?_
        refine Exec.cndS (by simp only [go_sem] <;> rfl) (fun hb14 => ?_) (fun hb14 => ?_)
        · skip
          exact absurd hb14 (by decide)
        · skip
          refine Exec.skipS ?_
          refine Exec.reg ?_
          iterate 2 (refine Run.op (by simp only [go_sem] <;> rfl) (by simp only [go_sem] <;> rfl) ?_)
          refine Run.op (by simp only [go_sem]; (try simp (disch := omega) only [IntWalk.i64_in, IntWalk.u64_in, if_neg, if_pos])<;> rfl) (by simp only [go_sem] <;> rfl) ?_
          refine Run.op (by simp only [go_sem] <;> rfl) (by simp only [go_sem] <;> rfl) ?_
          refine Run.op (by simp only [go_sem]; (try simp (disch := omega) only [IntWalk.i64_in, IntWalk.u64_in, if_neg, if_pos])<;> rfl) (by simp only [go_sem] <;> rfl) ?_
          refine Run.op (by simp only [go_sem]; (try simp (disch := omega) only [IntWalk.i64_in, IntWalk.u64_in, if_neg, if_pos])<;> rfl) (by simp only [go_sem] <;> rfl) ?_
          refine Run.op (by simp only [go_sem] <;> rfl) (by simp only [go_sem] <;> rfl) ?_
          refine Run.nil ?_
          exact Ends.fin [] (rs := [.tmp 2]) rfl (by simp only [go_sem] <;> rfl) (by simp only [go_sem] <;> first | rfl | ((repeat' (first | with_reducible_and_instances rfl | refine st_eq ?_ ?_ ?_ | refine ret_eq ?_ | refine tup_eq ?_ | refine tm_eq ?_ ?_ | refine arr_eq ?_ | refine cells_eq ?_ | refine val_eq ?_ | refine ls_eq ?_ ?_ | refine own_eq ?_ ?_ | refine sl_eq ?_ | refine b_eq ?_ | (refine i_eq ?_; omega))); (all_goals kernel_rfl)))
  · skip
    refine con_of follows_mixed Try.func70 rfl (by simp only [List.length_cons, List.length_nil, Try.ntmps70]; omega) (by kernel_rfl) rfl ?_
    refine Exec.reg ?_
    refine Run.op (by simp only [go_sem] <;> rfl) (by simp only [go_sem] <;> rfl) ?_
    refine Run.nil ?_
    refine Exec.assocS ?_
    refine Exec.reg ?_
    iterate 2 (refine Run.op (by simp only [go_sem] <;> rfl) (by simp only [go_sem] <;> rfl) ?_)
    refine Run.nil ?_
    refine Exec.cndS (by simp only [go_sem] <;> rfl) (fun hb4 => ?_) (fun hb4 => ?_)
    · skip
      exact absurd hb4 (by decide)
    · skip
      refine Exec.skipS ?_
      refine Exec.assocS ?_
      refine Exec.reg ?_
      iterate 2 (refine Run.op (by simp only [go_sem] <;> rfl) (by simp only [go_sem] <;> rfl) ?_)
      refine Run.nil ?_
      refine Exec.cndS (by simp only [go_sem] <;> rfl) (fun hb8 => ?_) (fun hb8 => ?_)
      · skip
        exact absurd hb8 (by decide)
      · skip
        refine Exec.skipS ?_
        refine Exec.assocS ?_
        refine Exec.reg ?_
        iterate 2 (refine Run.op (by simp only [go_sem] <;> rfl) (by simp only [go_sem] <;> rfl) ?_)
        refine Run.nil ?_
        refine Exec.cndS (by simp only [go_sem] <;> rfl) (fun hb14 => ?_) (fun hb14 => ?_)
        · skip
          exact absurd hb14 (by decide)
        · skip
          refine Exec.skipS ?_
          refine Exec.reg ?_
          iterate 2 (refine Run.op (by simp only [go_sem] <;> rfl) (by simp only [go_sem] <;> rfl) ?_)
          refine Run.op (by simp only [go_sem]; (try simp (disch := omega) only [IntWalk.i64_in, IntWalk.u64_in, if_neg, if_pos])<;> rfl) (by simp only [go_sem] <;> rfl) ?_
          refine Run.op (by simp only [go_sem] <;> rfl) (by simp only [go_sem] <;> rfl) ?_
          refine Run.op (by simp only [go_sem]; (try simp (disch := omega) only [IntWalk.i64_in, IntWalk.u64_in, if_neg, if_pos])<;> rfl) (by simp only [go_sem] <;> rfl) ?_
          refine Run.op (by simp only [go_sem]; (try simp (disch := omega) only [IntWalk.i64_in, IntWalk.u64_in, if_neg, if_pos])<;> rfl) (by simp only [go_sem] <;> rfl) ?_
          refine Run.op (by simp only [go_sem] <;> rfl) (by simp only [go_sem] <;> rfl) ?_
          refine Run.nil ?_
          exact Ends.fin [] (rs := [.tmp 2]) rfl (by simp only [go_sem] <;> rfl) (by simp only [go_sem] <;> first | rfl | ((repeat' (first | with_reducible_and_instances rfl | refine st_eq ?_ ?_ ?_ | refine ret_eq ?_ | refine tup_eq ?_ | refine tm_eq ?_ ?_ | refine arr_eq ?_ | refine cells_eq ?_ | refine val_eq ?_ | refine ls_eq ?_ ?_ | refine own_eq ?_ ?_ | refine sl_eq ?_ | refine b_eq ?_ | (refine i_eq ?_; omega))); (all_goals kernel_rfl)))
  · skip
    refine con_of follows_mixed Try.func70 rfl (by simp only [List.length_cons, List.length_nil, Try.ntmps70]; omega) (by kernel_rfl) rfl ?_
    refine Exec.reg ?_
    refine Run.op (by simp only [go_sem] <;> rfl) (by simp only [go_sem] <;> rfl) ?_
    refine Run.nil ?_
    refine Exec.assocS ?_
    refine Exec.reg ?_
    iterate 2 (refine Run.op (by simp only [go_sem] <;> rfl) (by simp only [go_sem] <;> rfl) ?_)
    refine Run.nil ?_
    refine Exec.cndS (by simp only [go_sem] <;> rfl) (fun hb4 => ?_) (fun hb4 => ?_)
    · skip
      exact absurd hb4 (by decide)
    · skip
      refine Exec.skipS ?_
      refine Exec.assocS ?_
      refine Exec.reg ?_
      iterate 2 (refine Run.op (by simp only [go_sem] <;> rfl) (by simp only [go_sem] <;> rfl) ?_)
      refine Run.nil ?_
      refine Exec.cndS (by simp only [go_sem] <;> rfl) (fun hb8 => ?_) (fun hb8 => ?_)
      · skip
        exact absurd hb8 (by decide)
      · skip
        refine Exec.skipS ?_
        refine Exec.assocS ?_
        refine Exec.reg ?_
        iterate 2 (refine Run.op (by simp only [go_sem] <;> rfl) (by simp only [go_sem] <;> rfl) ?_)
        refine Run.nil ?_
        refine Exec.cndS (by simp only [go_sem] <;> rfl) (fun hb14 => ?_) (fun hb14 => ?_)
        · skip
          exact absurd hb14 (by decide)
        · skip
          refine Exec.skipS ?_
          refine Exec.reg ?_
          iterate 2 (refine Run.op (by simp only [go_sem] <;> rfl) (by simp only [go_sem] <;> rfl) ?_)
          refine Run.op (by simp only [go_sem]; (try simp (disch := omega) only [IntWalk.i64_in, IntWalk.u64_in, if_neg, if_pos])<;> rfl) (by simp only [go_sem] <;> rfl) ?_
          refine Run.op (by simp only [go_sem] <;> rfl) (by simp only [go_sem] <;> rfl) ?_
          refine Run.op (by simp only [go_sem]; (try simp (disch := omega) only [IntWalk.i64_in, IntWalk.u64_in, if_neg, if_pos])<;> rfl) (by simp only [go_sem] <;> rfl) ?_
          refine Run.op (by simp only [go_sem]; (try simp (disch := omega) only [IntWalk.i64_in, IntWalk.u64_in, if_neg, if_pos])<;> rfl) (by simp only [go_sem] <;> rfl) ?_
          refine Run.op (by simp only [go_sem] <;> rfl) (by simp only [go_sem] <;> rfl) ?_
          refine Run.nil ?_
          exact Ends.fin [] (rs := [.tmp 2]) rfl (by simp only [go_sem] <;> rfl) (by simp only [go_sem] <;> first | rfl | ((repeat' (first | with_reducible_and_instances rfl | refine st_eq ?_ ?_ ?_ | refine ret_eq ?_ | refine tup_eq ?_ | refine tm_eq ?_ ?_ | refine arr_eq ?_ | refine cells_eq ?_ | refine val_eq ?_ | refine ls_eq ?_ ?_ | refine own_eq ?_ ?_ | refine sl_eq ?_ | refine b_eq ?_ | (refine i_eq ?_; omega))); (all_goals kernel_rfl)))
  · skip
    refine con_of follows_mixed Try.func70 rfl (by simp only [List.length_cons, List.length_nil, Try.ntmps70]; omega) (by kernel_rfl) rfl ?_
    refine Exec.reg ?_
    refine Run.op (by simp only [go_sem] <;> rfl) (by simp only [go_sem] <;> rfl) ?_
    refine Run.nil ?_
    refine Exec.assocS ?_
    refine Exec.reg ?_
    iterate 2 (refine Run.op (by simp only [go_sem] <;> rfl) (by simp only [go_sem] <;> rfl) ?_)
    refine Run.nil ?_
    refine Exec.cndS (by simp only [go_sem] <;> rfl) (fun hb4 => ?_) (fun hb4 => ?_)
    · skip
      exact absurd hb4 (by decide)
    · skip
      refine Exec.skipS ?_
      refine Exec.assocS ?_
      refine Exec.reg ?_
      iterate 2 (refine Run.op (by simp only [go_sem] <;> rfl) (by simp only [go_sem] <;> rfl) ?_)
      refine Run.nil ?_
      refine Exec.cndS (by simp only [go_sem] <;> rfl) (fun hb8 => ?_) (fun hb8 => ?_)
      · skip
        exact absurd hb8 (by decide)
      · skip
        refine Exec.skipS ?_
        refine Exec.assocS ?_
        refine Exec.reg ?_
        iterate 2 (refine Run.op (by simp only [go_sem] <;> rfl) (by simp only [go_sem] <;> rfl) ?_)
        refine Run.nil ?_
        refine Exec.cndS (by simp only [go_sem] <;> rfl) (fun hb14 => ?_) (fun hb14 => ?_)
        · skip
          exact absurd hb14 (by decide)
        · skip
          refine Exec.skipS ?_
          refine Exec.reg ?_
          iterate 2 (refine Run.op (by simp only [go_sem] <;> rfl) (by simp only [go_sem] <;> rfl) ?_)
          refine Run.op (by simp only [go_sem]; (try simp (disch := omega) only [IntWalk.i64_in, IntWalk.u64_in, if_neg, if_pos])<;> rfl) (by simp only [go_sem] <;> rfl) ?_
          refine Run.op (by simp only [go_sem] <;> rfl) (by simp only [go_sem] <;> rfl) ?_
          refine Run.op (by simp only [go_sem]; (try simp (disch := omega) only [IntWalk.i64_in, IntWalk.u64_in, if_neg, if_pos])<;> rfl) (by simp only [go_sem] <;> rfl) ?_
          refine Run.op (by simp only [go_sem]; (try simp (disch := omega) only [IntWalk.i64_in, IntWalk.u64_in, if_neg, if_pos])<;> rfl) (by simp only [go_sem] <;> rfl) ?_
          refine Run.op (by simp only [go_sem] <;> rfl) (by simp only [go_sem] <;> rfl) ?_
          refine Run.nil ?_
          exact Ends.fin [] (rs := [.tmp 2]) rfl (by simp only [go_sem] <;> rfl) (by simp only [go_sem] <;> first | rfl | ((repeat' (first | with_reducible_and_instances rfl | refine st_eq ?_ ?_ ?_ | refine ret_eq ?_ | refine tup_eq ?_ | refine tm_eq ?_ ?_ | refine arr_eq ?_ | refine cells_eq ?_ | refine val_eq ?_ | refine ls_eq ?_ ?_ | refine own_eq ?_ ?_ | refine sl_eq ?_ | refine b_eq ?_ | (refine i_eq ?_; omega))); (all_goals kernel_rfl)))
  · skip
    refine con_of follows_mixed Try.func70 rfl (by simp only [List.length_cons, List.length_nil, Try.ntmps70]; omega) (by kernel_rfl) rfl ?_
    refine Exec.reg ?_
    refine Run.op (by simp only [go_sem] <;> rfl) (by simp only [go_sem] <;> rfl) ?_
    refine Run.nil ?_
    refine Exec.assocS ?_
    refine Exec.reg ?_
    iterate 2 (refine Run.op (by simp only [go_sem] <;> rfl) (by simp only [go_sem] <;> rfl) ?_)
    refine Run.nil ?_
    refine Exec.cndS (by simp only [go_sem] <;> rfl) (fun hb4 => ?_) (fun hb4 => ?_)
    · skip
      exact absurd hb4 (by decide)
    · skip
      refine Exec.skipS ?_
      refine Exec.assocS ?_
      refine Exec.reg ?_
      iterate 2 (refine Run.op (by simp only [go_sem] <;> rfl) (by simp only [go_sem] <;> rfl) ?_)
      refine Run.nil ?_
      refine Exec.cndS (by simp only [go_sem] <;> rfl) (fun hb8 => ?_) (fun hb8 => ?_)
      · skip
        exact absurd hb8 (by decide)
      · skip
        refine Exec.skipS ?_
        refine Exec.assocS ?_
        refine Exec.reg ?_
        iterate 2 (refine Run.op (by simp only [go_sem] <;> rfl) (by simp only [go_sem] <;> rfl) ?_)
        refine Run.nil ?_
        refine Exec.cndS (by simp only [go_sem] <;> rfl) (fun hb14 => ?_) (fun hb14 => ?_)
        · skip
          exact absurd hb14 (by decide)
        · skip
          refine Exec.skipS ?_
          refine Exec.reg ?_
          iterate 2 (refine Run.op (by simp only [go_sem] <;> rfl) (by simp only [go_sem] <;> rfl) ?_)
          refine Run.op (by simp only [go_sem]; (try simp (disch := omega) only [IntWalk.i64_in, IntWalk.u64_in, if_neg, if_pos])<;> rfl) (by simp only [go_sem] <;> rfl) ?_
          refine Run.op (by simp only [go_sem] <;> rfl) (by simp only [go_sem] <;> rfl) ?_
          refine Run.op (by simp only [go_sem]; (try simp (disch := omega) only [IntWalk.i64_in, IntWalk.u64_in, if_neg, if_pos])<;> rfl) (by simp only [go_sem] <;> rfl) ?_
          refine Run.op (by simp only [go_sem]; (try simp (disch := omega) only [IntWalk.i64_in, IntWalk.u64_in, if_neg, if_pos])<;> rfl) (by simp only [go_sem] <;> rfl) ?_
          refine Run.op (by simp only [go_sem] <;> rfl) (by simp only [go_sem] <;> rfl) ?_
          refine Run.nil ?_
          exact Ends.fin [] (rs := [.tmp 2]) rfl (by simp only [go_sem] <;> rfl) (by simp only [go_sem] <;> first | rfl | ((repeat' (first | with_reducible_and_instances rfl | refine st_eq ?_ ?_ ?_ | refine ret_eq ?_ | refine tup_eq ?_ | refine tm_eq ?_ ?_ | refine arr_eq ?_ | refine cells_eq ?_ | refine val_eq ?_ | refine ls_eq ?_ ?_ | refine own_eq ?_ ?_ | refine sl_eq ?_ | refine b_eq ?_ | (refine i_eq ?_; omega))); (all_goals kernel_rfl)))
  · skip
    refine con_of follows_mixed Try.func70 rfl (by simp only [List.length_cons, List.length_nil, Try.ntmps70]; omega) (by kernel_rfl) rfl ?_
    refine Exec.reg ?_
    refine Run.op (by simp only [go_sem] <;> rfl) (by simp only [go_sem] <;> rfl) ?_
    refine Run.nil ?_
    refine Exec.assocS ?_
    refine Exec.reg ?_
    iterate 2 (refine Run.op (by simp only [go_sem] <;> rfl) (by simp only [go_sem] <;> rfl) ?_)
    refine Run.nil ?_
    refine Exec.cndS (by simp only [go_sem] <;> rfl) (fun hb4 => ?_) (fun hb4 => ?_)
    · skip
      exact absurd hb4 (by decide)
    · skip
      refine Exec.skipS ?_
      refine Exec.assocS ?_
      refine Exec.reg ?_
      iterate 2 (refine Run.op (by simp only [go_sem] <;> rfl) (by simp only [go_sem] <;> rfl) ?_)
      refine Run.nil ?_
      refine Exec.cndS (by simp only [go_sem] <;> rfl) (fun hb8 => ?_) (fun hb8 => ?_)
      · skip
        exact absurd hb8 (by decide)
      · skip
        refine Exec.skipS ?_
        refine Exec.assocS ?_
        refine Exec.reg ?_
        iterate 2 (refine Run.op (by simp only [go_sem] <;> rfl) (by simp only [go_sem] <;> rfl) ?_)
        refine Run.nil ?_
        refine Exec.cndS (by simp only [go_sem] <;> rfl) (fun hb14 => ?_) (fun hb14 => ?_)
        · skip
          exact absurd hb14 (by decide)
        · skip
          refine Exec.skipS ?_
          refine Exec.reg ?_
          iterate 2 (refine Run.op (by simp only [go_sem] <;> rfl) (by simp only [go_sem] <;> rfl) ?_)
          refine Run.op (by simp only [go_sem]; (try simp (disch := omega) only [IntWalk.i64_in, IntWalk.u64_in, if_neg, if_pos])<;> rfl) (by simp only [go_sem] <;> rfl) ?_
          refine Run.op (by simp only [go_sem] <;> rfl) (by simp only [go_sem] <;> rfl) ?_
          refine Run.op (by simp only [go_sem]; (try simp (disch := omega) only [IntWalk.i64_in, IntWalk.u64_in, if_neg, if_pos])<;> rfl) (by simp only [go_sem] <;> rfl) ?_
          refine Run.op (by simp only [go_sem]; (try simp (disch := omega) only [IntWalk.i64_in, IntWalk.u64_in, if_neg, if_pos])<;> rfl) (by simp only [go_sem] <;> rfl) ?_
          refine Run.op (by simp only [go_sem] <;> rfl) (by simp only [go_sem] <;> rfl) ?_
          refine Run.nil ?_
          exact Ends.fin [] (rs := [.tmp 2]) rfl (by simp only [go_sem] <;> rfl) (by simp only [go_sem] <;> first | rfl | ((repeat' (first | with_reducible_and_instances rfl | refine st_eq ?_ ?_ ?_ | refine ret_eq ?_ | refine tup_eq ?_ | refine tm_eq ?_ ?_ | refine arr_eq ?_ | refine cells_eq ?_ | refine val_eq ?_ | refine ls_eq ?_ ?_ | refine own_eq ?_ ?_ | refine sl_eq ?_ | refine b_eq ?_ | (refine i_eq ?_; omega))); (all_goals kernel_rfl)))

set_option maxRecDepth 20000 in
/-- math/bits.Len -/
theorem c_Len (n : Nat) (hn : n ≤ 12) : Contract Try.prog 56 [.raw (.int .u64 (n : Int))] (.int (lenB n)) [] := by
  refine con_of follows_mixed Try.func56 rfl (by simp only [List.length_cons, List.length_nil, Try.ntmps56]; omega) (by kernel_rfl) rfl ?_
  refine Exec.reg ?_
  refine Run.op (by simp only [go_sem] <;> rfl) (by simp only [go_sem] <;> rfl) ?_
  refine Run.nil ?_
  refine Exec.cndS (by simp only [go_sem] <;> rfl) (fun hb0 => ?_) (fun hb0 => ?_)
  · exact absurd hb0 (by simp)
  · skip
    refine Exec.skipS ?_
    refine Exec.reg ?_
    refine Run.op (by simp only [go_sem] <;> rfl) (by simp only [go_sem] <;> rfl) ?_
    refine Run.cal (c_Len64 n hn) (by simp only [go_sem]) (by simp only [go_sem] <;> rfl) (by exact ⟨by first | exact WkR.pure rfl | exact WkR.nil _ | exact WkR.int (by first | omega | (simp; done) | (simp; omega)), trivial⟩) (fr0) (by simp only [go_sem] <;> rfl) ?_
    refine Run.op (by simp only [go_sem] <;> rfl) (by simp only [go_sem] <;> rfl) ?_
    refine Run.nil ?_
    exact Ends.fin [] (rs := [.tmp 2]) rfl (by simp only [go_sem] <;> rfl) (by simp only [go_sem] <;> first | rfl | ((repeat' (first | with_reducible_and_instances rfl | refine st_eq ?_ ?_ ?_ | refine ret_eq ?_ | refine tup_eq ?_ | refine tm_eq ?_ ?_ | refine arr_eq ?_ | refine cells_eq ?_ | refine val_eq ?_ | refine ls_eq ?_ ?_ | refine own_eq ?_ ?_ | refine sl_eq ?_ | refine b_eq ?_ | (refine i_eq ?_; omega))); done))

set_option maxRecDepth 20000 in
set_option maxHeartbeats 4000000 in
/-- slices.pdqsortCmpFunc[meterworks/api.Span] -/
theorem c_pdqsort_Span {g : FuncId} {ds : List D} (c : Go.Dr.Span → Go.Dr.Span → Int) (hg : canCall Try.prog g = true) (hc : ∀ x y, Contract Try.prog g (spanV x :: spanV y :: ds.map fun x => .leaf (.d x)) (.int (c x y)) []) (l : List Go.Dr.Span) (hn : l.length ≤ 12) (m : Int) : Con Try.prog 55 [.leaf (.own 900 0 l.length l.length), .int 0, .int l.length, .int m, .leaf (.d (.fn g ds))] [(900, .arr 45 2 ((l).map encSpan))] (.ret (.tup []) [(900, .arr 45 2 ((isortE (fun x y => decide (c x y < 0)) l).map encSpan))]) := by
  have hi := c_insertionSort_Span c hg hc [] l [] l.length (by simp) (by omega)
  have hle : decide ((l.length : Int) ≤ 12) = true := by simp; omega
  simp only [List.nil_append, List.append_nil, List.length_nil, Nat.zero_add] at hi
  refine con_of follows_mixed Try.func55 rfl (by simp only [List.length_cons, List.length_nil, Try.ntmps55]; omega) (by kernel_rfl) rfl ?_
  refine Exec.reg ?_
  refine Run.op (by simp only [go_sem, hle, Int.sub_zero] <;> rfl) (by simp only [go_sem] <;> rfl) ?_
  refine Run.nil ?_
  refine Exec.reg ?_
  refine Run.op (by simp only [go_sem, hle, Int.sub_zero] <;> rfl) (by simp only [go_sem] <;> rfl) ?_
  refine Run.nil ?_
  refine Exec.blk1 ?_
  refine Exec.forA [0, 1, 2, 3, 4, 10, 11] [900] (1) (fun k => []) (fun _ => True) (fun k => by simp only [go_sem] <;> rfl) (by simp only [go_sem, hle, Int.sub_zero] <;> rfl) ?_ (fun k hk hX => ?_)
  · trivial
  · skip
    refine Exec.blk1 ?_
    refine Exec.reg ?_
    iterate 2 (refine Run.op (by simp only [go_sem, hle, Int.sub_zero] <;> rfl) (by simp only [go_sem] <;> rfl) ?_)
    refine Run.op (by simp only [go_sem, hle, Int.sub_zero]; (try simp (disch := omega) only [IntWalk.i64_in, IntWalk.u64_in, if_neg, if_pos])<;> rfl) (by simp only [go_sem] <;> rfl) ?_
    refine Run.op (by simp only [go_sem, hle, Int.sub_zero] <;> rfl) (by simp only [go_sem] <;> rfl) ?_
    refine Run.nil ?_
    refine Exec.assocS ?_
    refine Exec.reg ?_
    iterate 2 (refine Run.op (by simp only [go_sem, hle, Int.sub_zero] <;> rfl) (by simp only [go_sem] <;> rfl) ?_)
    refine Run.nil ?_
    refine Exec.cndS (by simp only [go_sem, hle, Int.sub_zero] <;> rfl) (fun hb25 => ?_) (fun hb25 => ?_)
    · skip
      refine Exec.assocS ?_
      refine Exec.reg ?_
      iterate 4 (refine Run.op (by simp only [go_sem, hle, Int.sub_zero] <;> rfl) (by simp only [go_sem] <;> rfl) ?_)
      refine Run.lendA 900 900 (hi) (by simp [len_isortE]) (by assumption) (by simp only [go_sem] <;> rfl) (by simp only [go_sem, hle, Int.sub_zero] <;> rfl) (by simp only [go_sem, hle, Int.sub_zero] <;> rfl) (by exact ⟨by first | exact WkR.pure rfl | exact WkR.of rfl rfl | exact WkR.nil _ | exact WkR.int (by first | omega | (simp; done) | (simp; omega)), by first | exact WkR.pure rfl | exact WkR.of rfl rfl | exact WkR.nil _ | exact WkR.int (by first | omega | (simp; done) | (simp; omega)), by first | exact WkR.pure rfl | exact WkR.of rfl rfl | exact WkR.nil _ | exact WkR.int (by first | omega | (simp; done) | (simp; omega)), by first | exact WkR.pure rfl | exact WkR.of rfl rfl | exact WkR.nil _ | exact WkR.int (by first | omega | (simp; done) | (simp; omega)), wkr_caps _ _ _⟩) (by simp only [go_sem, hle, Int.sub_zero] <;> rfl) ?_
      refine Run.nil ?_
      refine Exec.retS ?_
      refine Blk1K.ret ?_
      refine ForK.ret ?_
      refine Blk1K.ret ?_
      exact Ends.fin [900] (rs := []) rfl (by simp only [go_sem, hle, Int.sub_zero] <;> rfl) (by simp only [go_sem, hle, Int.sub_zero] <;> first | rfl | ((repeat' (first | with_reducible_and_instances rfl | refine st_eq ?_ ?_ ?_ | refine ret_eq ?_ | refine tup_eq ?_ | refine tm_eq ?_ ?_ | refine arr_eq ?_ | refine cells_eq ?_ | refine val_eq ?_ | refine ls_eq ?_ ?_ | refine own_eq ?_ ?_ | refine sl_eq ?_ | refine b_eq ?_ | (refine i_eq ?_; omega))); done))
    · skip
      exact absurd hb25 (by simp [hle])

set_option maxRecDepth 20000 in
/-- slices.SortFunc[[]meterworks/api.Span,meterworks/api.Span] -/
theorem c_SortFunc_Span {g : FuncId} {ds : List D} (c : Go.Dr.Span → Go.Dr.Span → Int) (hg : canCall Try.prog g = true) (hc : ∀ x y, Contract Try.prog g (spanV x :: spanV y :: ds.map fun x => .leaf (.d x)) (.int (c x y)) []) (l : List Go.Dr.Span) (hn : l.length ≤ 12) : Con Try.prog 44 [.leaf (.own 900 0 l.length l.length), .leaf (.d (.fn g ds))] [(900, .arr 45 2 ((l).map encSpan))] (.ret (.tup []) [(900, .arr 45 2 ((isortE (fun x y => decide (c x y < 0)) l).map encSpan))]) := by
  have hu : IntKind.u64.wrap (l.length : Int) = ((l.length : Nat) : Int) := IntWalk.u64_in _ (by omega)
  refine con_of follows_mixed Try.func44 rfl (by simp only [List.length_cons, List.length_nil, Try.ntmps44]; omega) (by kernel_rfl) rfl ?_
  refine Exec.reg ?_
  iterate 3 (refine Run.op (by simp only [go_sem, hu] <;> rfl) (by simp only [go_sem] <;> rfl) ?_)
  refine Run.nil ?_
  refine Exec.reg1 ?_
  iterate 3 (refine Run.op (by simp only [go_sem, hu] <;> rfl) (by simp only [go_sem] <;> rfl) ?_)
  refine Run.op (by simp only [go_sem, hu]; (try simp (disch := omega) only [IntWalk.i64_in, IntWalk.u64_in, if_neg, if_pos])<;> rfl) (by simp only [go_sem] <;> rfl) ?_
  refine Run.cal (c_Len l.length hn) (by simp only [go_sem]) (by simp only [go_sem, hu] <;> rfl) (by exact ⟨by first | exact WkR.pure rfl | exact WkR.nil _ | exact WkR.int (by first | omega | (simp; done) | (simp; omega)), trivial⟩) (fr0) (by simp only [go_sem, hu] <;> rfl) ?_
  refine Run.op (by simp only [go_sem, hu] <;> rfl) (by simp only [go_sem] <;> rfl) ?_
  refine Run.lendA 900 900 (c_pdqsort_Span c hg hc l hn (lenB l.length)) (by simp [len_isortE]) (by simp only [go_sem]) (by simp only [go_sem] <;> rfl) (by simp only [go_sem, hu] <;> rfl) (by simp only [go_sem, hu] <;> rfl) (by exact ⟨by first | exact WkR.pure rfl | exact WkR.of rfl rfl | exact WkR.nil _ | exact WkR.int (by first | omega | (simp; done) | (simp; omega)), by first | exact WkR.pure rfl | exact WkR.of rfl rfl | exact WkR.nil _ | exact WkR.int (by first | omega | (simp; done) | (simp; omega)), by first | exact WkR.pure rfl | exact WkR.of rfl rfl | exact WkR.nil _ | exact WkR.int (by first | omega | (simp; done) | (simp; omega)), by first | exact WkR.pure rfl | exact WkR.of rfl rfl | exact WkR.nil _ | exact WkR.int (by first | omega | (simp; done) | (simp; omega)), by first | exact WkR.pure rfl | exact WkR.of rfl rfl | exact WkR.nil _ | exact WkR.int (by first | omega | (simp; done) | (simp; omega)), trivial⟩) (by simp only [go_sem, hu] <;> rfl) ?_
  refine Run.nil ?_
  exact Ends.fin0 [900] (rs := []) rfl (by simp only [go_sem, hu] <;> rfl) (by simp only [go_sem, hu] <;> first | rfl | ((repeat' (first | with_reducible_and_instances rfl | refine st_eq ?_ ?_ ?_ | refine ret_eq ?_ | refine tup_eq ?_ | refine tm_eq ?_ ?_ | refine arr_eq ?_ | refine cells_eq ?_ | refine val_eq ?_ | refine ls_eq ?_ ?_ | refine own_eq ?_ ?_ | refine sl_eq ?_ | refine b_eq ?_ | (refine i_eq ?_; omega))); done))

end Go.Mw

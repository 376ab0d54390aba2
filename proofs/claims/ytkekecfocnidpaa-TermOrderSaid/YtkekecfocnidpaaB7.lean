/- Contracts of the functions that the term reaches: the document's counts. -/
import Derived.Test.YtkekecfocnidpaaB6
import Derived.Test.YtkekecfocnidpaaB4
set_option linter.unusedSimpArgs false
set_option linter.unusedVariables false
set_option linter.unusedSectionVars false
set_option linter.deprecated false
namespace Go.Mw
open Go.Proofs
open Go.Te
abbrev cntV (p : List Int × Int) : AV := .tup [(false, [.d (intsD p.1)]), (false, [.d (.i p.2)])]
theorem getElem_mem_of {α : Type} {l : List α} {i : Nat} (h : i < l.length) : ∃ x, l[i]? = some x := ⟨_, List.getElem?_eq_getElem h⟩
end Go.Mw
namespace Go.Mw
open Go.Proofs
open Go.Te
set_option maxRecDepth 20000 in
set_option maxHeartbeats 4000000 in
/-- slices.insertionSortCmpFunc[int] -/
theorem c_insertionSort_nat {g : FuncId} {ds : List D} (c : Nat → Nat → Int) (OK : Nat → Prop) (hg : canCall Try.prog g = true) (hc : ∀ x y : Nat, OK x → OK y → Contract Try.prog g (.int x :: .int y :: ds.map fun x => .leaf (.d x)) (.int (c x y)) []) (p s q : List Nat) (n : Nat) (hn : (p ++ s ++ q).length = n) (hn2 : n ≤ 1000) (hok : ∀ x ∈ s, OK x) : Con Try.prog 82 [.leaf (.own 900 0 n n), .int p.length, .int (p.length + s.length), .leaf (.d (.fn g ds))] [(900, .arr 3 1 ((p ++ s ++ q).map encNat))] (.ret (.tup []) [(900, .arr 3 1 ((p ++ isortE (fun x y => decide (c x y < 0)) s ++ q).map encNat))]) := by
  have hps : p.length + s.length + q.length = n := by rw [← hn]; simp; omega
  generalize hlt : (fun x y => decide (c x y < 0)) = lt
  refine con_of follows_mixed Try.func82 rfl (by simp only [List.length_cons, List.length_nil, Try.ntmps82]; omega) (by kernel_rfl) rfl ?_
  refine Exec.reg ?_
  refine Run.o ?_
  refine Run.o1 (by simp only [go_sem]; (try simp (disch := omega) only [IntWalk.i64_in, IntWalk.u64_in, if_neg, if_pos])<;> rfl) ?_
  refine Run.o ?_
  refine Run.nil ?_
  refine Exec.blk1 ?_
  refine Exec.forA [0, 1, 2, 3, 8] [900] (s.length) (fun k => [.slot 8 (.int ((p.length : Int) + 1 + k)), .obj 900 (.arr 3 1 ((p ++ (isortE lt (s.take (k + 1)) ++ s.drop (k + 1)) ++ q).map encNat))]) (fun _ => True) (fun k => by simp only [go_sem] <;> rfl) (by simp only [go_sem, Nat.zero_add, isortE_one, Int.natCast_zero, Int.add_zero] <;> rfl) ?_ (fun k hk hX => ?_)
  · trivial
  · skip
    refine Exec.assocS ?_
    refine Exec.reg ?_
    iterate 3 (refine Run.o ?_)
    refine Run.nil ?_
    refine Exec.cndS (by simp only [go_sem] <;> rfl) (fun hb14 => ?_) (fun hb14 => ?_)
    · skip
      have hk1 : k + 1 < s.length := by have := of_decide_eq_true hb14; omega
      have htl : (isortE lt (s.take (k + 1))).length = k + 1 := by rw [len_isortE]; simp; omega
      obtain ⟨x, hx⟩ : ∃ x, s[k + 1]? = some x := ⟨_, List.getElem?_eq_getElem hk1⟩
      have hox := hok x (List.mem_of_getElem? hx)
      have hdr : s.drop (k + 1) = x :: s.drop (k + 2) := by
        obtain ⟨h1, rfl⟩ := List.getElem?_eq_some_iff.1 hx
        exact (List.getElem_cons_drop h1).symm
      have e0 : Lt p (isortE lt (s.take (k + 1))) (s.drop (k + 2) ++ q) x (k + 1) = p ++ (isortE lt (s.take (k + 1)) ++ s.drop (k + 1)) ++ q := by
        have := Lt_start (p := p) (t := isortE lt (s.take (k + 1))) (r := s.drop (k + 2) ++ q) (x := x)
        rw [htl] at this
        rw [this, hdr]; simp
      refine Exec.skipS ?_
      refine Exec.blk ?_
      refine Exec.reg ?_
      iterate 2 (refine Run.o ?_)
      refine Run.nil ?_
      refine Exec.blk1 ?_
      refine Exec.forA [0, 1, 2, 3, 8, 9] [900] (k + 1) (fun j => [.slot 9 (.int ((p.length : Int) + 1 + k - j)), .obj 900 (.arr 3 1 ((Lt p (isortE lt (s.take (k + 1))) (s.drop (k + 2) ++ q) x (k + 1 - j)).map encNat))]) (fun j => scanE lt x (isortE lt (s.take (k + 1))) (k + 1) = scanE lt x (isortE lt (s.take (k + 1))) (k + 1 - j)) (fun j => by simp only [go_sem] <;> rfl) (by simp only [go_sem, Nat.sub_zero, e0, Int.natCast_zero, Int.sub_zero] <;> rfl) ?_ (fun j hj Xj => ?_)
      · rfl
      · skip
        refine Exec.assocS ?_
        by_cases hj1 : j < k + 1
        · skip
          have hg1 : decide ((p.length : Int) + 1 + k - j > p.length) = true := by simp; omega
          obtain ⟨y, hy⟩ : ∃ y, (isortE lt (s.take (k + 1)))[k - j]? = some y := ⟨_, List.getElem?_eq_getElem (by omega)⟩
          have hoy := hok y (List.mem_of_mem_take (mem_isortE.1 (List.mem_of_getElem? hy)))
          have hcj : k + 1 - j = k - j + 1 := by omega
          have hcj2 : k + 1 - (j + 1) = k - j := by omega
          have t1 : ((p.length : Int) + 1 + k - j).toNat = p.length + (k + 1 - j) := by omega
          have t2 : ((p.length : Int) + 1 + k - j - 1).toNat = p.length + (k - j) := by omega
          have fl : (Lt p (isortE lt (s.take (k + 1))) (s.drop (k + 2) ++ q) x (k + 1 - j)).length = n := by rw [Lt_len (by omega), htl, List.length_append, List.length_drop]; omega
          have fx := Lt_x (p := p) (t := isortE lt (s.take (k + 1))) (r := s.drop (k + 2) ++ q) (x := x) (c := k + 1 - j) (by omega)
          have fy : (Lt p (isortE lt (s.take (k + 1))) (s.drop (k + 2) ++ q) x (k + 1 - j))[p.length + (k - j)]? = some y := by rw [hcj]; exact Lt_y hy
          refine Exec.opk 19 ?_
          refine OpenK.o1 (by simp only [go_sem, hg1, t1, t2, fl, fx, fy] <;> rfl) ?_
          refine OpenK.o1 (by simp only [go_sem, hg1, t1, t2, fl, fx, fy] <;> rfl) ?_
          refine OpenK.o1 (by simp only [go_sem, hg1, t1, t2, fl, fx, fy] <;> rfl) ?_
          refine OpenK.o1 (by simp only [go_sem, hg1, t1, t2, fl, fx, fy] <;> rfl) ?_
          refine OpenK.y1 (by simp only [go_sem, hg1, t1, t2, fl, fx, fy] <;> rfl) ?_
          refine OpenK.y1 (by simp only [go_sem, hg1, t1, t2, fl, fx, fy] <;> rfl) ?_
          refine OpenK.y1 (by simp only [go_sem, hg1, t1, t2, fl, fx, fy] <;> rfl) ?_
          refine OpenK.y1 (by simp only [go_sem, hg1, t1, t2, fl, fx, fy]; (try simp (disch := omega) only [if_pos]); (try simp only [go_sem, hg1, t1, t2, fl, fx, fy])<;> rfl) ?_
          refine OpenK.y1 (by simp only [go_sem, hg1, t1, t2, fl, fx, fy] <;> rfl) ?_
          refine OpenK.y1 (by simp only [go_sem, hg1, t1, t2, fl, fx, fy] <;> rfl) ?_
          refine OpenK.y1 (by simp only [go_sem, hg1, t1, t2, fl, fx, fy] <;> rfl) ?_
          refine OpenK.y1 (by simp only [go_sem, hg1, t1, t2, fl, fx, fy]; (try simp (disch := omega) only [IntWalk.i64_in, IntWalk.u64_in, if_neg, if_pos])<;> rfl) ?_
          refine OpenK.y1 (by simp only [go_sem, hg1, t1, t2, fl, fx, fy]; (try simp (disch := omega) only [if_pos]); (try simp only [go_sem, hg1, t1, t2, fl, fx, fy])<;> rfl) ?_
          refine OpenK.y1 (by simp only [go_sem, hg1, t1, t2, fl, fx, fy] <;> rfl) ?_
          refine OpenK.calw (by simp only [go_sem] <;> rfl) (hc x y hox hoy) (by assumption) (by simp only [go_sem, hg1, t1, t2, fl, fx, fy] <;> rfl) (by simp only [go_sem, hg1, t1, t2, fl, fx, fy] <;> rfl) (by exact ⟨by first | exact WkR.pure rfl | exact WkR.nil _ | exact WkR.int (by omega), by first | exact WkR.pure rfl | exact WkR.nil _ | exact WkR.int (by omega), wkr_caps _ _ _⟩) (fr0) (by simp only [go_sem, hg1, t1, t2, fl, fx, fy] <;> rfl) (by simp only [go_sem] <;> rfl) (by simp only [go_sem] <;> rfl) ?_
          refine OpenK.y1 (by simp only [go_sem, hg1, t1, t2, fl, fx, fy] <;> rfl) ?_
          refine OpenK.o1 (by simp only [go_sem, hg1, t1, t2, fl, fx, fy] <;> rfl) ?_
          refine OpenK.nil (OpenE.finT (by kernel_rfl) (by kernel_rfl) (by kernel_rfl) ?_)
          refine Exec.cndS (by simp only [go_sem, hg1, t1, t2, fl, fx, fy] <;> rfl) (fun hb34 => ?_) (fun hb34 => ?_)
          · skip
            have hl : lt x y = true := by rw [← hlt]; exact hb34
            have hXn : scanE lt x (isortE lt (s.take (k + 1))) (k + 1) = scanE lt x (isortE lt (s.take (k + 1))) (k + 1 - (j + 1)) := by rw [Xj, hcj, scanE_yes hy hl, hcj2]
            have fset : Lt p (isortE lt (s.take (k + 1))) (s.drop (k + 2) ++ q) x (k + 1 - (j + 1)) = ((Lt p (isortE lt (s.take (k + 1))) (s.drop (k + 2) ++ q) x (k + 1 - j)).set (p.length + (k + 1 - j)) y).set (p.length + (k - j)) x := by
              have := Lt_set (p := p) (r := s.drop (k + 2) ++ q) (x := x) hy
              rw [hcj, hcj2]; exact this.symm
            have hne : p.length + (k + 1 - j) ≠ p.length + (k - j) := by omega
            refine Exec.skipS ?_
            refine Exec.blk ?_
            refine Exec.opk1 20 ?_
            refine OpenK.o1 (by simp only [go_sem, hg1, t1, t2, fl, fx, fy, List.getElem?_set_ne hne] <;> rfl) ?_
            refine OpenK.o1 (by simp only [go_sem, hg1, t1, t2, fl, fx, fy, List.getElem?_set_ne hne] <;> rfl) ?_
            refine OpenK.o1 (by simp only [go_sem, hg1, t1, t2, fl, fx, fy, List.getElem?_set_ne hne] <;> rfl) ?_
            refine OpenK.o1 (by simp only [go_sem, hg1, t1, t2, fl, fx, fy, List.getElem?_set_ne hne] <;> rfl) ?_
            refine OpenK.o1 (by simp only [go_sem, hg1, t1, t2, fl, fx, fy, List.getElem?_set_ne hne]; (try simp (disch := omega) only [IntWalk.i64_in, IntWalk.u64_in, if_neg, if_pos])<;> rfl) ?_
            refine OpenK.o1 (by simp only [go_sem, hg1, t1, t2, fl, fx, fy, List.getElem?_set_ne hne] <;> rfl) ?_
            refine OpenK.o1 (by simp only [go_sem, hg1, t1, t2, fl, fx, fy, List.getElem?_set_ne hne] <;> rfl) ?_
            refine OpenK.o1 (by simp only [go_sem, hg1, t1, t2, fl, fx, fy, List.getElem?_set_ne hne]; (try simp (disch := omega) only [IntWalk.i64_in, IntWalk.u64_in, if_neg, if_pos])<;> rfl) ?_
            refine OpenK.o1 (by simp only [go_sem, hg1, t1, t2, fl, fx, fy, List.getElem?_set_ne hne]; (try simp (disch := omega) only [if_pos]); (try simp only [go_sem, hg1, t1, t2, fl, fx, fy, List.getElem?_set_ne hne])<;> rfl) ?_
            refine OpenK.o1 (by simp only [go_sem, hg1, t1, t2, fl, fx, fy, List.getElem?_set_ne hne] <;> rfl) ?_
            refine OpenK.o1 (by simp only [go_sem, hg1, t1, t2, fl, fx, fy, List.getElem?_set_ne hne] <;> rfl) ?_
            refine OpenK.o1 (by simp only [go_sem, hg1, t1, t2, fl, fx, fy, List.getElem?_set_ne hne] <;> rfl) ?_
            refine OpenK.o1 (by simp only [go_sem, hg1, t1, t2, fl, fx, fy, List.getElem?_set_ne hne]; (try simp (disch := omega) only [if_pos]); (try simp only [go_sem, hg1, t1, t2, fl, fx, fy, List.getElem?_set_ne hne])<;> rfl) ?_
            refine OpenK.o1 (by simp only [go_sem, hg1, t1, t2, fl, fx, fy, List.getElem?_set_ne hne] <;> rfl) ?_
            refine OpenK.o1 (by simp only [go_sem, hg1, t1, t2, fl, fx, fy, List.getElem?_set_ne hne]; (try simp (disch := omega) only [if_pos]); (try simp only [go_sem, hg1, t1, t2, fl, fx, fy, List.getElem?_set_ne hne])<;> rfl) ?_
            refine OpenK.o1 (by simp only [go_sem, hg1, t1, t2, fl, fx, fy, List.getElem?_set_ne hne] <;> rfl) ?_
            refine OpenK.o1 (by simp only [go_sem, hg1, t1, t2, fl, fx, fy, List.getElem?_set_ne hne]; (try simp (disch := omega) only [if_pos]); (try simp only [go_sem, hg1, t1, t2, fl, fx, fy, List.getElem?_set_ne hne])<;> rfl) ?_
            refine OpenK.o1 (by simp only [go_sem, hg1, t1, t2, fl, fx, fy, List.getElem?_set_ne hne] <;> rfl) ?_
            refine OpenK.nil (OpenE.finT (by kernel_rfl) (by kernel_rfl) (by kernel_rfl) ?_)
            refine BlkK.nrm ?_
            refine Exec.reg1 ?_
            refine Run.o1 (by simp only [go_sem, hg1, t1, t2, fl, fx, fy, List.getElem?_set_ne hne] <;> rfl) ?_
            refine Run.o1 (by simp only [go_sem, hg1, t1, t2, fl, fx, fy, List.getElem?_set_ne hne]; (try simp (disch := omega) only [IntWalk.i64_in, IntWalk.u64_in, if_neg, if_pos])<;> rfl) ?_
            refine Run.o1 (by simp only [go_sem, hg1, t1, t2, fl, fx, fy, List.getElem?_set_ne hne] <;> rfl) ?_
            refine Run.nil ?_
            refine ForK.nxt ?_ ?_ ?_
            · omega
            · exact Ghost.kp [0, 1, 2, 3, 8, 9] [900] (by simp only [go_sem, hg1, t1, t2, fl, fx, fy, List.getElem?_set_ne hne]; first | ((repeat' (first | with_reducible_and_instances rfl | refine st_eq ?_ ?_ ?_ | refine ret_eq ?_ | refine tup_eq ?_ | refine tm_eq ?_ ?_ | refine arr_eq ?_ | refine cells_eq ?_ | refine val_eq ?_ | refine ls_eq ?_ ?_ | refine own_eq ?_ ?_ | refine sl_eq ?_ | refine b_eq ?_ | (refine i_eq ?_; omega))); (rw [fset, List.map_set, List.map_set]; rfl)) | rfl)
            · exact hXn
          · skip
            have hl : lt x y = false := by rw [← hlt]; exact hb34
            have hsc : scanE lt x (isortE lt (s.take (k + 1))) (k + 1) = k + 1 - j := by rw [Xj, hcj, scanE_no hy hl]
            have en : p ++ (isortE lt (s.take (k + 1 + 1)) ++ s.drop (k + 1 + 1)) ++ q = Lt p (isortE lt (s.take (k + 1))) (s.drop (k + 2) ++ q) x (k + 1 - j) := by
              have ht2 : s.take (k + 1 + 1) = s.take (k + 1) ++ [x] := by rw [List.take_succ, hx]; rfl
              rw [← hsc, ht2, isortE_snoc]
              have := Lt_ins (lt := lt) (p := p) (t := isortE lt (s.take (k + 1))) (r := s.drop (k + 2) ++ q) (x := x)
              rw [htl] at this
              rw [this]; simp
            refine Exec.exitS ?_
            refine ForK.ext ?_
            refine Blk1K.hit ?_
            refine BlkK.nrm ?_
            refine Exec.reg1 ?_
            refine Run.o1 (by simp only [go_sem, hg1, t1, t2, fl, fx, fy, en] <;> rfl) ?_
            refine Run.o1 (by simp only [go_sem, hg1, t1, t2, fl, fx, fy, en]; (try simp (disch := omega) only [IntWalk.i64_in, IntWalk.u64_in, if_neg, if_pos])<;> rfl) ?_
            refine Run.o1 (by simp only [go_sem, hg1, t1, t2, fl, fx, fy, en] <;> rfl) ?_
            refine Run.nil ?_
            refine ForK.nxt ?_ ?_ ?_
            · omega
            · exact Ghost.kp [0, 1, 2, 3, 8] [900] (by simp only [go_sem, hg1, t1, t2, fl, fx, fy, en]; first | ((repeat' (first | with_reducible_and_instances rfl | refine st_eq ?_ ?_ ?_ | refine ret_eq ?_ | refine tup_eq ?_ | refine tm_eq ?_ ?_ | refine arr_eq ?_ | refine cells_eq ?_ | refine val_eq ?_ | refine ls_eq ?_ ?_ | refine own_eq ?_ ?_ | refine sl_eq ?_ | refine b_eq ?_ | (refine i_eq ?_; omega))); done) | rfl)
            · trivial
        · skip
          have hg1 : decide ((p.length : Int) + 1 + k - j > p.length) = false := by simp; omega
          refine Exec.opk 19 ?_
          refine OpenK.o1 (by simp only [go_sem, hg1] <;> rfl) ?_
          refine OpenK.o1 (by simp only [go_sem, hg1] <;> rfl) ?_
          refine OpenK.o1 (by simp only [go_sem, hg1] <;> rfl) ?_
          refine OpenK.o1 (by simp only [go_sem, hg1] <;> rfl) ?_
          refine OpenK.s ?_
          refine OpenK.s ?_
          refine OpenK.s ?_
          refine OpenK.s ?_
          refine OpenK.s ?_
          refine OpenK.s ?_
          refine OpenK.s ?_
          refine OpenK.s ?_
          refine OpenK.s ?_
          refine OpenK.s ?_
          refine OpenK.s ?_
          refine OpenK.s ?_
          refine OpenK.o1 (by simp only [go_sem, hg1] <;> rfl) ?_
          refine OpenK.nil (OpenE.finT (by kernel_rfl) (by kernel_rfl) (by kernel_rfl) ?_)
          refine Exec.cndS (by simp only [go_sem, hg1] <;> rfl) (fun hb34 => ?_) (fun hb34 => ?_)
          · exact absurd hb34 (by simp)
          · skip
            have hsc : scanE lt x (isortE lt (s.take (k + 1))) (k + 1) = k + 1 - j := by rw [Xj, show k + 1 - j = 0 by omega]; rfl
            have en : p ++ (isortE lt (s.take (k + 1 + 1)) ++ s.drop (k + 1 + 1)) ++ q = Lt p (isortE lt (s.take (k + 1))) (s.drop (k + 2) ++ q) x (k + 1 - j) := by
              have ht2 : s.take (k + 1 + 1) = s.take (k + 1) ++ [x] := by rw [List.take_succ, hx]; rfl
              rw [← hsc, ht2, isortE_snoc]
              have := Lt_ins (lt := lt) (p := p) (t := isortE lt (s.take (k + 1))) (r := s.drop (k + 2) ++ q) (x := x)
              rw [htl] at this
              rw [this]; simp
            refine Exec.exitS ?_
            refine ForK.ext ?_
            refine Blk1K.hit ?_
            refine BlkK.nrm ?_
            refine Exec.reg1 ?_
            refine Run.o1 (by simp only [go_sem, hg1, en] <;> rfl) ?_
            refine Run.o1 (by simp only [go_sem, hg1, en]; (try simp (disch := omega) only [IntWalk.i64_in, IntWalk.u64_in, if_neg, if_pos])<;> rfl) ?_
            refine Run.o1 (by simp only [go_sem, hg1, en] <;> rfl) ?_
            refine Run.nil ?_
            refine ForK.nxt ?_ ?_ ?_
            · omega
            · exact Ghost.kp [0, 1, 2, 3, 8] [900] (by simp only [go_sem, hg1, en]; first | ((repeat' (first | with_reducible_and_instances rfl | refine st_eq ?_ ?_ ?_ | refine ret_eq ?_ | refine tup_eq ?_ | refine tm_eq ?_ ?_ | refine arr_eq ?_ | refine cells_eq ?_ | refine val_eq ?_ | refine ls_eq ?_ ?_ | refine own_eq ?_ ?_ | refine sl_eq ?_ | refine b_eq ?_ | (refine i_eq ?_; omega))); done) | rfl)
            · trivial
    · skip
      have hk1 : s.length ≤ k + 1 := by have := of_decide_eq_false hb14; omega
      have e : p ++ (isortE lt (s.take (k + 1)) ++ s.drop (k + 1)) ++ q = p ++ isortE lt s ++ q := by rw [List.take_of_length_le hk1, List.drop_eq_nil_of_le hk1, List.append_nil]
      refine Exec.exitS ?_
      refine ForK.ext ?_
      refine Blk1K.hit ?_
      exact Ends.fin0 [900] (rs := []) rfl (by simp only [go_sem, e] <;> rfl) (by simp only [go_sem, e] <;> first | rfl | ((repeat' (first | with_reducible_and_instances rfl | refine st_eq ?_ ?_ ?_ | refine ret_eq ?_ | refine tup_eq ?_ | refine tm_eq ?_ ?_ | refine arr_eq ?_ | refine cells_eq ?_ | refine val_eq ?_ | refine ls_eq ?_ ?_ | refine own_eq ?_ ?_ | refine sl_eq ?_ | refine b_eq ?_ | (refine i_eq ?_; omega))); done))

def cmpI (a b : Int) : Int := if a < b then -1 else if a > b then 1 else 0
theorem cmp_lt (a b : Int) : decide (cmpI a b < 0) = decide (a < b) := by
  unfold cmpI
  split
  · rename_i h; simp [h]
  · rename_i h
    split <;> simp [h]
set_option maxRecDepth 20000 in
/-- cmp.isNaN[int] -/
theorem c_isNaN (n : Int) : Contract Try.prog 81 [.int n] (.bool false) [] := by
  refine con_of follows_mixed Try.func81 rfl (by simp only [List.length_cons, List.length_nil, Try.ntmps81]; omega) (by kernel_rfl) rfl ?_
  refine Exec.reg ?_
  refine Run.o1 (by simp only [go_sem, bne_self_eq_false] <;> rfl) ?_
  refine Run.nil ?_
  refine Exec.reg ?_
  iterate 4 (refine Run.o1 (by simp only [go_sem, bne_self_eq_false] <;> rfl) ?_)
  refine Run.nil ?_
  exact Ends.fin [] (rs := [.tmp 2]) rfl (by simp only [go_sem, bne_self_eq_false] <;> rfl) (by simp only [go_sem, bne_self_eq_false] <;> first | rfl | ((repeat' (first | with_reducible_and_instances rfl | refine st_eq ?_ ?_ ?_ | refine ret_eq ?_ | refine tup_eq ?_ | refine tm_eq ?_ ?_ | refine arr_eq ?_ | refine cells_eq ?_ | refine val_eq ?_ | refine ls_eq ?_ ?_ | refine own_eq ?_ ?_ | refine sl_eq ?_ | refine b_eq ?_ | (refine i_eq ?_; omega))); done))

set_option maxRecDepth 20000 in
/-- cmp.Compare[int] -/
theorem c_Compare (a b : Int) : Contract Try.prog 77 [.int a, .int b] (.int (cmpI a b)) [] := by
  refine con_of follows_mixed Try.func77 rfl (by simp only [List.length_cons, List.length_nil, Try.ntmps77]; omega) (by kernel_rfl) rfl ?_
  refine Exec.reg ?_
  refine Run.o ?_
  refine Run.nil ?_
  refine Exec.reg ?_
  refine Run.o ?_
  refine Run.c1 (c_isNaN _) (by simp only [go_sem] <;> rfl) (by simp only [go_sem] <;> rfl) ?_
  refine Run.o ?_
  refine Run.nil ?_
  refine Exec.reg ?_
  refine Run.o ?_
  refine Run.c1 (c_isNaN _) (by simp only [go_sem] <;> rfl) (by simp only [go_sem] <;> rfl) ?_
  refine Run.o ?_
  refine Run.nil ?_
  refine Exec.assocS ?_
  refine Exec.reg ?_
  refine Run.o ?_
  refine Run.nil ?_
  refine Exec.cndS (by simp only [go_sem] <;> rfl) (fun hb11 => ?_) (fun hb11 => ?_)
  · exact absurd hb11 (by simp)
  · skip
    refine Exec.skipS ?_
    refine Exec.assocS ?_
    refine Exec.reg ?_
    refine Run.o ?_
    refine Run.nil ?_
    refine Exec.cndS (by simp only [go_sem] <;> rfl) (fun hb13 => ?_) (fun hb13 => ?_)
    · exact absurd hb13 (by simp)
    · skip
      refine Exec.skipS ?_
      refine Exec.assocS ?_
      refine Exec.reg ?_
      iterate 3 (refine Run.o ?_)
      refine Run.nil ?_
      refine Exec.cndS (by simp only [go_sem] <;> rfl) (fun hb16 => ?_) (fun hb16 => ?_)
      · skip
        have hr : cmpI a b = -1 := if_pos (of_decide_eq_true hb16)
        refine Exec.assocS ?_
        refine Exec.reg ?_
        refine Run.o1 (by simp only [go_sem, hr] <;> rfl) ?_
        refine Run.nil ?_
        refine Exec.retS ?_
        exact Ends.fin [] (rs := [.tmp 4]) rfl (by simp only [go_sem, hr] <;> rfl) (by simp only [go_sem, hr] <;> first | rfl | ((repeat' (first | with_reducible_and_instances rfl | refine st_eq ?_ ?_ ?_ | refine ret_eq ?_ | refine tup_eq ?_ | refine tm_eq ?_ ?_ | refine arr_eq ?_ | refine cells_eq ?_ | refine val_eq ?_ | refine ls_eq ?_ ?_ | refine own_eq ?_ ?_ | refine sl_eq ?_ | refine b_eq ?_ | (refine i_eq ?_; omega))); done))
      · skip
        refine Exec.skipS ?_
        refine Exec.assocS ?_
        refine Exec.reg ?_
        iterate 3 (refine Run.o ?_)
        refine Run.nil ?_
        refine Exec.cndS (by simp only [go_sem] <;> rfl) (fun hb19 => ?_) (fun hb19 => ?_)
        · skip
          have hr : cmpI a b = 1 := by have h1 := of_decide_eq_false hb16; have h2 := of_decide_eq_true hb19; rw [cmpI, if_neg h1, if_pos h2]
          refine Exec.assocS ?_
          refine Exec.reg ?_
          refine Run.o1 (by simp only [go_sem, hr] <;> rfl) ?_
          refine Run.nil ?_
          refine Exec.retS ?_
          exact Ends.fin [] (rs := [.tmp 4]) rfl (by simp only [go_sem, hr] <;> rfl) (by simp only [go_sem, hr] <;> first | rfl | ((repeat' (first | with_reducible_and_instances rfl | refine st_eq ?_ ?_ ?_ | refine ret_eq ?_ | refine tup_eq ?_ | refine tm_eq ?_ ?_ | refine arr_eq ?_ | refine cells_eq ?_ | refine val_eq ?_ | refine ls_eq ?_ ?_ | refine own_eq ?_ ?_ | refine sl_eq ?_ | refine b_eq ?_ | (refine i_eq ?_; omega))); done))
        · skip
          have hr : cmpI a b = 0 := by have h1 := of_decide_eq_false hb16; have h2 := of_decide_eq_false hb19; rw [cmpI, if_neg h1, if_neg h2]
          refine Exec.skipS ?_
          refine Exec.reg ?_
          refine Run.o1 (by simp only [go_sem, hr] <;> rfl) ?_
          refine Run.nil ?_
          exact Ends.fin [] (rs := [.tmp 4]) rfl (by simp only [go_sem, hr] <;> rfl) (by simp only [go_sem, hr] <;> first | rfl | ((repeat' (first | with_reducible_and_instances rfl | refine st_eq ?_ ?_ ?_ | refine ret_eq ?_ | refine tup_eq ?_ | refine tm_eq ?_ ?_ | refine arr_eq ?_ | refine cells_eq ?_ | refine val_eq ?_ | refine ls_eq ?_ ?_ | refine own_eq ?_ ?_ | refine sl_eq ?_ | refine b_eq ?_ | (refine i_eq ?_; omega))); done))

set_option maxRecDepth 20000 in
set_option maxHeartbeats 4000000 in
/-- slices.stableCmpFunc[int] -/
theorem c_stable_nat {g : FuncId} {ds : List D} (c : Nat → Nat → Int) (OK : Nat → Prop) (hg : canCall Try.prog g = true) (hc : ∀ x y : Nat, OK x → OK y → Contract Try.prog g (.int x :: .int y :: ds.map fun x => .leaf (.d x)) (.int (c x y)) []) (l : List Nat) (hn : l.length < 20) (hok : ∀ x ∈ l, OK x) : Con Try.prog 80 [.leaf (.own 900 0 l.length l.length), .int l.length, .leaf (.d (.fn g ds))] [(900, .arr 3 1 ((l).map encNat))] (.ret (.tup []) [(900, .arr 3 1 ((isortE (fun x y => decide (c x y < 0)) l).map encNat))]) := by
  have hi := c_insertionSort_nat c OK hg hc [] l [] l.length (by simp) (by omega) hok
  have hle : decide ((20 : Int) ≤ (l.length : Int)) = false := by simp; omega
  have hle2 : decide ((20 : Int) < (l.length : Int)) = false := by simp; omega
  simp only [List.nil_append, List.append_nil, List.length_nil, Nat.zero_add] at hi
  refine con_of follows_mixed Try.func80 rfl (by simp only [List.length_cons, List.length_nil, Try.ntmps80]; omega) (by kernel_rfl) rfl ?_
  refine Exec.reg ?_
  refine Run.o1 (by simp only [go_sem, hle, hle2] <;> rfl) ?_
  refine Run.nil ?_
  refine Exec.reg ?_
  iterate 3 (refine Run.o1 (by simp only [go_sem, hle, hle2] <;> rfl) ?_)
  refine Run.nil ?_
  refine Exec.blk ?_
  refine Exec.forA [0, 1, 2, 6, 7, 8] [900] (0) (fun k => []) (fun _ => True) (fun k => by simp only [go_sem] <;> rfl) (by simp only [go_sem, hle, hle2] <;> rfl) ?_ (fun k hk hX => ?_)
  · trivial
  · skip
    refine Exec.assocS ?_
    refine Exec.reg ?_
    iterate 3 (refine Run.o1 (by simp only [go_sem, hle, hle2] <;> rfl) ?_)
    refine Run.nil ?_
    refine Exec.cndS (by simp only [go_sem, hle, hle2] <;> rfl) (fun hb13 => ?_) (fun hb13 => ?_)
    · skip
      exact absurd hb13 (by simp [hle])
    · skip
      refine Exec.exitS ?_
      refine ForK.ext ?_
      refine BlkK.hit ?_
      refine Exec.reg ?_
      iterate 4 (refine Run.o1 (by simp only [go_sem, hle, hle2] <;> rfl) ?_)
      refine Run.lendA 900 900 (hi) (by simp [len_isortE]) (by simp only [go_sem]) (by simp only [go_sem] <;> rfl) (by simp only [go_sem, hle, hle2] <;> rfl) (by simp only [go_sem, hle, hle2] <;> rfl) (by exact ⟨by first | exact WkR.pure rfl | exact WkR.of rfl rfl | exact WkR.nil _ | exact WkR.int (by first | omega | (simp; done) | (simp; omega)), by first | exact WkR.pure rfl | exact WkR.of rfl rfl | exact WkR.nil _ | exact WkR.int (by first | omega | (simp; done) | (simp; omega)), by first | exact WkR.pure rfl | exact WkR.of rfl rfl | exact WkR.nil _ | exact WkR.int (by first | omega | (simp; done) | (simp; omega)), by first | exact WkR.pure rfl | exact WkR.of rfl rfl | exact WkR.nil _ | exact WkR.int (by first | omega | (simp; done) | (simp; omega)), trivial⟩) (by simp only [go_sem, hle, hle2] <;> rfl) ?_
      refine Run.nil ?_
      refine Exec.blk1 ?_
      refine Exec.forA [0, 1, 2, 6] [900] (0) (fun k => []) (fun _ => True) (fun k => by simp only [go_sem] <;> rfl) (by simp only [go_sem, hle, hle2] <;> rfl) ?_ (fun k hk hX => ?_)
      · trivial
      · skip
        refine Exec.assocS ?_
        refine Exec.reg ?_
        iterate 3 (refine Run.o1 (by simp only [go_sem, hle, hle2] <;> rfl) ?_)
        refine Run.nil ?_
        refine Exec.cndS (by simp only [go_sem, hle, hle2] <;> rfl) (fun hb30 => ?_) (fun hb30 => ?_)
        · skip
          exact absurd hb30 (by simp [hle2])
        · skip
          refine Exec.exitS ?_
          refine ForK.ext ?_
          refine Blk1K.hit ?_
          exact Ends.fin0 [900] (rs := []) rfl (by simp only [go_sem, hle, hle2] <;> rfl) (by simp only [go_sem, hle, hle2] <;> first | rfl | ((repeat' (first | with_reducible_and_instances rfl | refine st_eq ?_ ?_ ?_ | refine ret_eq ?_ | refine tup_eq ?_ | refine tm_eq ?_ ?_ | refine arr_eq ?_ | refine cells_eq ?_ | refine val_eq ?_ | refine ls_eq ?_ ?_ | refine own_eq ?_ ?_ | refine sl_eq ?_ | refine b_eq ?_ | (refine i_eq ?_; omega))); done))

set_option maxRecDepth 20000 in
/-- slices.SortStableFunc[[]int,int] -/
theorem c_SortStable_nat {g : FuncId} {ds : List D} (c : Nat → Nat → Int) (OK : Nat → Prop) (hg : canCall Try.prog g = true) (hc : ∀ x y : Nat, OK x → OK y → Contract Try.prog g (.int x :: .int y :: ds.map fun x => .leaf (.d x)) (.int (c x y)) []) (l : List Nat) (hn : l.length < 20) (hok : ∀ x ∈ l, OK x) : Con Try.prog 75 [.leaf (.own 900 0 l.length l.length), .leaf (.d (.fn g ds))] [(900, .arr 3 1 ((l).map encNat))] (.ret (.tup []) [(900, .arr 3 1 ((isortE (fun x y => decide (c x y < 0)) l).map encNat))]) := by
  refine con_of follows_mixed Try.func75 rfl (by simp only [List.length_cons, List.length_nil, Try.ntmps75]; omega) (by kernel_rfl) rfl ?_
  refine Exec.reg1 ?_
  iterate 4 (refine Run.o ?_)
  refine Run.lendA 900 900 (c_stable_nat c OK hg hc l hn hok) (by simp [len_isortE]) (by simp only [go_sem]) (by simp only [go_sem] <;> rfl) (by simp only [go_sem] <;> rfl) (by simp only [go_sem] <;> rfl) (by exact ⟨by first | exact WkR.pure rfl | exact WkR.of rfl rfl | exact WkR.nil _ | exact WkR.int (by first | omega | (simp; done) | (simp; omega)), by first | exact WkR.pure rfl | exact WkR.of rfl rfl | exact WkR.nil _ | exact WkR.int (by first | omega | (simp; done) | (simp; omega)), by first | exact WkR.pure rfl | exact WkR.of rfl rfl | exact WkR.nil _ | exact WkR.int (by first | omega | (simp; done) | (simp; omega)), trivial⟩) (by simp only [go_sem] <;> rfl) ?_
  refine Run.nil ?_
  exact Ends.fin0 [900] (rs := []) rfl (by simp only [go_sem] <;> rfl) (by simp only [go_sem] <;> first | rfl | ((repeat' (first | with_reducible_and_instances rfl | refine st_eq ?_ ?_ ?_ | refine ret_eq ?_ | refine tup_eq ?_ | refine tm_eq ?_ ?_ | refine arr_eq ?_ | refine cells_eq ?_ | refine val_eq ?_ | refine ls_eq ?_ ?_ | refine own_eq ?_ ?_ | refine sl_eq ?_ | refine b_eq ?_ | (refine i_eq ?_; omega))); done))

set_option maxRecDepth 20000 in
/-- (*meterworks/term.store).proofs_1_1 -/
theorem c_proofs_by (p : Pf) : Contract Try.prog 72 [pfV p] (.int p.day) [] := by
  refine con_of follows_mixed Try.func72 rfl (by simp only [List.length_cons, List.length_nil, Try.ntmps72]; omega) (by kernel_rfl) rfl ?_
  refine Exec.reg ?_
  iterate 2 (refine Run.o ?_)
  refine Run.nil ?_
  refine Exec.reg ?_
  iterate 3 (refine Run.o ?_)
  refine Run.nil ?_
  exact Ends.fin [] (rs := [.tmp 2]) rfl (by simp only [go_sem] <;> rfl) (by simp only [go_sem] <;> first | rfl | ((repeat' (first | with_reducible_and_instances rfl | refine st_eq ?_ ?_ ?_ | refine ret_eq ?_ | refine tup_eq ?_ | refine tm_eq ?_ ?_ | refine arr_eq ?_ | refine cells_eq ?_ | refine val_eq ?_ | refine ls_eq ?_ ?_ | refine own_eq ?_ ?_ | refine sl_eq ?_ | refine b_eq ?_ | (refine i_eq ?_; omega))); done))

set_option maxRecDepth 20000 in
/-- meterworks/term.sorted[meterworks/api.Proof]_1 -/
theorem c_sorted_cmp (s : Stk) (x y : Nat) (hx : x < s.ps.length) (hy : y < s.ps.length) : Contract Try.prog 76 [.int x, .int y, .leaf (.d (.pt [.fn 72 []])), .leaf (.d (.pt [psD s.ps]))] (.int (cmpI (prOf s x).day (prOf s y).day)) [] := by
  have h1 := prOf_get hx
  have h2 := prOf_get hy
  refine con_of follows_mixed Try.func76 rfl (by simp only [List.length_cons, List.length_nil, Try.ntmps76]; omega) (by kernel_rfl) rfl ?_
  refine Exec.reg ?_
  refine Run.o1 (by simp only [go_sem, h1, h2] <;> rfl) ?_
  refine Run.nil ?_
  refine Exec.opk 16 ?_
  refine OpenK.o1 (by simp only [go_sem, h1, h2] <;> rfl) ?_
  refine OpenK.o1 (by simp only [go_sem, h1, h2] <;> rfl) ?_
  refine OpenK.o1 (by simp only [go_sem, h1, h2] <;> rfl) ?_
  refine OpenK.o1 (by simp only [go_sem, h1, h2]; (try simp (disch := omega) only [if_pos]); (try simp only [go_sem, h1, h2])<;> rfl) ?_
  refine OpenK.o1 (by simp only [go_sem, h1, h2] <;> rfl) ?_
  refine OpenK.calw (by simp only [go_sem] <;> rfl) (c_proofs_by (prOf s x)) (by simp only [go_sem]) (by simp only [go_sem, h1, h2] <;> rfl) (by simp only [go_sem, h1, h2] <;> rfl) (by exact ⟨by first | exact WkR.pure rfl | exact WkR.nil _ | exact WkR.int (by first | omega | (simp; done) | (simp; omega)), trivial⟩) (fr0) (by simp only [go_sem, h1, h2] <;> rfl) (by simp only [go_sem] <;> rfl) (by simp only [go_sem] <;> rfl) ?_
  refine OpenK.o1 (by simp only [go_sem, h1, h2] <;> rfl) ?_
  refine OpenK.o1 (by simp only [go_sem, h1, h2] <;> rfl) ?_
  refine OpenK.o1 (by simp only [go_sem, h1, h2] <;> rfl) ?_
  refine OpenK.o1 (by simp only [go_sem, h1, h2]; (try simp (disch := omega) only [if_pos]); (try simp only [go_sem, h1, h2])<;> rfl) ?_
  refine OpenK.o1 (by simp only [go_sem, h1, h2] <;> rfl) ?_
  refine OpenK.calw (by simp only [go_sem] <;> rfl) (c_proofs_by (prOf s y)) (by simp only [go_sem]) (by simp only [go_sem, h1, h2] <;> rfl) (by simp only [go_sem, h1, h2] <;> rfl) (by exact ⟨by first | exact WkR.pure rfl | exact WkR.nil _ | exact WkR.int (by first | omega | (simp; done) | (simp; omega)), trivial⟩) (fr0) (by simp only [go_sem, h1, h2] <;> rfl) (by simp only [go_sem] <;> rfl) (by simp only [go_sem] <;> rfl) ?_
  refine OpenK.cal (c_Compare _ _) (by simp only [go_sem]) (by simp only [go_sem, h1, h2] <;> rfl) (by exact ⟨by first | exact WkR.pure rfl | exact WkR.nil _ | exact WkR.int (by first | omega | (simp; done) | (simp; omega)), by first | exact WkR.pure rfl | exact WkR.nil _ | exact WkR.int (by first | omega | (simp; done) | (simp; omega)), trivial⟩) (fr0) (by simp only [go_sem, h1, h2] <;> rfl) (by simp only [go_sem] <;> rfl) (by simp only [go_sem] <;> rfl) ?_
  refine OpenK.o1 (by simp only [go_sem, h1, h2] <;> rfl) ?_
  refine OpenK.nil (OpenE.fin (by decide +kernel) (by decide +kernel) ?_)
  exact Ends.fin [] (rs := [.tmp 6]) rfl (by simp only [go_sem, h1, h2] <;> rfl) (by simp only [go_sem, h1, h2] <;> first | rfl | ((repeat' (first | with_reducible_and_instances rfl | refine st_eq ?_ ?_ ?_ | refine ret_eq ?_ | refine tup_eq ?_ | refine tm_eq ?_ ?_ | refine arr_eq ?_ | refine cells_eq ?_ | refine val_eq ?_ | refine ls_eq ?_ ?_ | refine own_eq ?_ ?_ | refine sl_eq ?_ | refine b_eq ?_ | (refine i_eq ?_; omega))); done))

set_option maxRecDepth 20000 in
set_option maxHeartbeats 4000000 in
/-- meterworks/term.sorted[meterworks/api.Proof] -/
theorem c_sorted (s : Stk) (h : s.ps.length ≤ 12) : Contract Try.prog 71 [.leaf (.d (psD s.ps)), .leaf (.d (.fn 72 []))] (.leaf (.d (natsD (ordI s)))) [] := by
  have hrl : ∀ n, (List.range n).length = n := fun n => List.length_range
  have hrl0 : ((List.range 0).map encNat) = [] := rfl
  refine con_of follows_mixed Try.func71 rfl (by simp only [List.length_cons, List.length_nil, Try.ntmps71]; omega) (by kernel_rfl) rfl ?_
  refine Exec.reg ?_
  iterate 3 (refine Run.o ?_)
  refine Run.nil ?_
  refine Exec.assocS ?_
  refine Exec.reg ?_
  iterate 3 (refine Run.o ?_)
  refine Run.nilo 4 1000 3 1 (by simp only [go_sem] <;> rfl) (by simp only [go_sem] <;> rfl) (by omega) (by omega) (by simp only [go_sem] <;> rfl) ?_
  refine Run.nil ?_
  refine Exec.blk ?_
  refine Exec.forA [2, 3, 4, 7, 8] [2, 3, 1000] (s.ps.length) (fun k => [.slot 8 (.int k), .slot 4 (.leaf (.own 1000 0 k k)), .obj 1000 (.arr 3 1 ((List.range k).map encNat))]) (fun _ => True) (fun k => by simp only [go_sem] <;> rfl) (by simp only [go_sem, Int.natCast_zero, hrl0] <;> rfl) ?_ (fun k hk hX => ?_)
  · trivial
  · skip
    refine Exec.reg ?_
    refine Run.o ?_
    refine Run.nil ?_
    refine Exec.cndS (by simp only [go_sem] <;> rfl) (fun hb9 => ?_) (fun hb9 => ?_)
    · skip
      have hlt := lt_of_dec hb9
      refine Exec.skipS ?_
      refine Exec.blk ?_
      refine Exec.reg ?_
      iterate 2 (refine Run.o1 (by simp only [go_sem, hrl] <;> rfl) ?_)
      refine Run.nil ?_
      refine Exec.reg1 ?_
      iterate 3 (refine Run.o1 (by simp only [go_sem, hrl] <;> rfl) ?_)
      refine Run.o1 (by simp only [go_sem, hrl]; (try simp (disch := omega) only [if_pos]); (try simp only [go_sem, hrl]) <;> first | (refine ite_run ⟨by (try simp only [List.length_append, List.length_drop, List.length_take, List.length_map, List.length_cons, List.length_nil, List.length_replicate, List.length_set, List.length_range, Nat.zero_add]); omega, by (try simp only [List.length_append, List.length_drop, List.length_take, List.length_map, List.length_cons, List.length_nil, List.length_replicate, List.length_set, List.length_range, Nat.zero_add]); omega, by repeat (first | exact al_nil | assumption | refine al_app ?_ ?_ | refine al_drop ?_ | refine al_take ?_ | exact al_map (fun _ => rfl) | exact al_rep rfl | refine al_cons rfl ?_)⟩ ?_; simp only [go_sem, hrl] <;> rfl) | (refine ite_run ⟨by (try simp only [List.length_append, List.length_drop, List.length_take, List.length_map, List.length_cons, List.length_nil, List.length_replicate, List.length_set, List.length_range, Nat.zero_add]); omega, by repeat (first | exact al_nil | assumption | refine al_app ?_ ?_ | refine al_drop ?_ | refine al_take ?_ | exact al_map (fun _ => rfl) | exact al_rep rfl | refine al_cons rfl ?_)⟩ ?_; simp only [go_sem, hrl] <;> rfl) | rfl) ?_
      refine Run.o1 (by simp only [go_sem, hrl] <;> rfl) ?_
      refine Run.nil ?_
      refine BlkK.nrm ?_
      refine Exec.reg1 ?_
      refine Run.o1 (by simp only [go_sem, hrl]; (try simp (disch := omega) only [IntWalk.i64_in, IntWalk.u64_in, if_neg, if_pos])<;> rfl) ?_
      refine Run.o1 (by simp only [go_sem, hrl] <;> rfl) ?_
      refine Run.nil ?_
      refine ForK.nxt ?_ ?_ ?_
      · omega
      · exact Ghost.kp [2, 3, 4, 7, 8] [2, 3, 1000] (by simp only [go_sem, hrl]; first | ((repeat' (first | with_reducible_and_instances rfl | refine st_eq ?_ ?_ ?_ | refine ret_eq ?_ | refine tup_eq ?_ | refine tm_eq ?_ ?_ | refine arr_eq ?_ | refine cells_eq ?_ | refine val_eq ?_ | refine ls_eq ?_ ?_ | refine own_eq ?_ ?_ | refine sl_eq ?_ | refine b_eq ?_ | (refine i_eq ?_; omega))); (all_goals (first | (rw [List.range_succ]; simp [encNat]; done) | (simp [encNat]; done) | omega))) | rfl)
      · trivial
    · skip
      have hke : k = s.ps.length := by have := ge_of_dec hb9; omega
      subst hke
      have hlo : (ordI s).length = s.ps.length := ord_len s
      have hso : isortE (fun x y => decide (cmpI (prOf s x).day (prOf s y).day < 0)) (List.range s.ps.length) = ordI s := by unfold ordI; congr 1; funext i j; exact cmp_lt _ _
      have hsc := c_SortStable_nat (g := 76) (ds := [.pt [.fn 72 []], .pt [psD s.ps]]) (fun i j => cmpI (prOf s i).day (prOf s j).day) (fun x => x < s.ps.length) (by simp only [go_sem]) (fun x y hx hy => c_sorted_cmp s x y hx hy) (List.range s.ps.length) (by simp; omega) (fun x hx => by simpa using hx)
      rw [hrl] at hsc
      refine Exec.exitS ?_
      refine ForK.ext ?_
      refine BlkK.hit ?_
      refine Exec.reg ?_
      refine Run.frz 2 (by simp only [go_sem] <;> rfl) ?_
      refine Run.frz 3 (by simp only [go_sem] <;> rfl) ?_
      iterate 2 (refine Run.o1 (by simp only [go_sem, hso, hrl] <;> rfl) ?_)
      refine Run.lendA 900 1000 (hsc) (by simp [len_isortE]) (by simp only [go_sem]) (by simp only [go_sem] <;> rfl) (by simp only [go_sem, hso, hrl] <;> rfl) (by simp only [go_sem, hso, hrl] <;> rfl) (by exact ⟨by first | exact WkR.pure rfl | exact WkR.of rfl rfl | exact WkR.nil _ | exact WkR.int (by first | omega | (simp; done) | (simp; omega)), by first | exact WkR.pure rfl | exact WkR.of rfl rfl | exact WkR.nil _ | exact WkR.int (by first | omega | (simp; done) | (simp; omega)), trivial⟩) (by simp only [go_sem, hso, hrl] <;> rfl) ?_
      refine Run.nil ?_
      refine Exec.reg ?_
      refine Run.frz 1000 (by simp only [go_sem, hlo] <;> rfl) ?_
      iterate 2 (refine Run.o1 (by simp only [go_sem, hso, hrl] <;> rfl) ?_)
      refine Run.nil ?_
      exact Ends.fin [] (rs := [.tmp 4]) rfl (by simp only [go_sem, hso, hrl] <;> rfl) (by simp only [go_sem, hso, hrl] <;> first | rfl | ((repeat' (first | with_reducible_and_instances rfl | refine st_eq ?_ ?_ ?_ | refine ret_eq ?_ | refine tup_eq ?_ | refine tm_eq ?_ ?_ | refine arr_eq ?_ | refine cells_eq ?_ | refine val_eq ?_ | refine ls_eq ?_ ?_ | refine own_eq ?_ ?_ | refine sl_eq ?_ | refine b_eq ?_ | (refine i_eq ?_; omega))); (all_goals (first | rfl | (rw [List.take_of_length_le (by simp [hlo])])))))

end Go.Mw
namespace Go.Mw
open Go.Proofs
open Go.Te
theorem and_toNat (a m : Nat) (ha : a < 18446744073709551616) (hm : m < 18446744073709551616) : (BitVec.ofInt 64 (a : Int) &&& BitVec.ofInt 64 (m : Int)).toNat = a &&& m := by
  have e : ∀ x : Nat, x < 18446744073709551616 → (BitVec.ofInt 64 (x : Int)).toNat = x := fun x hx => by
    simp [BitVec.toNat_ofInt]
    omega
  rw [BitVec.toNat_and, e a ha, e m hm]
theorem and_le (a m : Nat) : a &&& m ≤ a := Nat.and_le_left
theorem fdiv_pow (a k : Nat) : ((a : Int)).fdiv (2 ^ k) = ((a / 2 ^ k : Nat) : Int) := by
  have e : (2 : Int) ^ k = ((2 ^ k : Nat) : Int) := by simp
  rw [e, Int.fdiv_eq_ediv_of_nonneg _ (Int.natCast_nonneg _)]
  rfl
theorem shr_1 (a : Nat) : ((a : Int)).fdiv (2 ^ min (Int.toNat 1) 64) = ((a / 2 : Nat) : Int) := fdiv_pow a 1
theorem shr_2 (a : Nat) : ((a : Int)).fdiv (2 ^ min (Int.toNat 2) 64) = ((a / 4 : Nat) : Int) := fdiv_pow a 2
theorem shr_4 (a : Nat) : ((a : Int)).fdiv (2 ^ min (Int.toNat 4) 64) = ((a / 16 : Nat) : Int) := fdiv_pow a 4
theorem shr_8 (a : Nat) : ((a : Int)).fdiv (2 ^ min (Int.toNat 8) 64) = ((a / 256 : Nat) : Int) := fdiv_pow a 8
theorem shr_16 (a : Nat) : ((a : Int)).fdiv (2 ^ min (Int.toNat 16) 64) = ((a / 65536 : Nat) : Int) := fdiv_pow a 16
theorem shr_32 (a : Nat) : ((a : Int)).fdiv (2 ^ min (Int.toNat 32) 64) = ((a / 4294967296 : Nat) : Int) := fdiv_pow a 32
theorem add_u64 {a b : Nat} (h : a + b < 18446744073709551616) : IntKind.u64.wrap ((a : Int) + (b : Int)) = ((a + b : Nat) : Int) := by
  rw [IntWalk.u64_in _ (by omega)]; omega
set_option maxRecDepth 20000 in
set_option maxHeartbeats 4000000 in
/-- math/bits.OnesCount64 -/
theorem c_OnesCount64 (n : Nat) (hn : n < 1048576) : Contract Try.prog 79 [.raw (.int .u64 (n : Int))] (.int (popc n : Nat)) [] := by
  obtain ⟨hpop, b1, b2, b3⟩ := pop_all hn
  have h2 : (BitVec.ofInt IntKind.u64.bits (((n / 2) : Nat) : Int) &&& BitVec.ofInt IntKind.u64.bits 6148914691236517205).toNat = ((n / 2) &&& m0) := and_toNat (n / 2) m0 (by omega) (by decide)
  simp only [go_sem] at h2
  have h3 : (BitVec.ofInt IntKind.u64.bits ((n : Nat) : Int) &&& BitVec.ofInt IntKind.u64.bits 6148914691236517205).toNat = (n &&& m0) := and_toNat n m0 (by omega) (by decide)
  simp only [go_sem] at h3
  have h4 := add_u64 (a := n / 2 &&& m0) (b := n &&& m0) (by have := and_le (n / 2) m0; have := and_le n m0; omega)
  have e1 : (n / 2 &&& m0) + (n &&& m0) = s1 n := rfl
  rw [e1] at h4
  have h4s : ((n / 2 &&& m0 : Nat) : Int) + ((n &&& m0 : Nat) : Int) = ((s1 n : Nat) : Int) := by rw [← e1]; omega
  generalize s1 n = x at *
  have g2 : (BitVec.ofInt IntKind.u64.bits (((x / 4) : Nat) : Int) &&& BitVec.ofInt IntKind.u64.bits 3689348814741910323).toNat = ((x / 4) &&& m1) := and_toNat (x / 4) m1 (by omega) (by decide)
  simp only [go_sem] at g2
  have g3 : (BitVec.ofInt IntKind.u64.bits ((x : Nat) : Int) &&& BitVec.ofInt IntKind.u64.bits 3689348814741910323).toNat = (x &&& m1) := and_toNat x m1 (by omega) (by decide)
  simp only [go_sem] at g3
  have g4 := add_u64 (a := x / 4 &&& m1) (b := x &&& m1) (by have := and_le (x / 4) m1; have := and_le x m1; omega)
  have e2 : (x / 4 &&& m1) + (x &&& m1) = s2 x := rfl
  rw [e2] at g4
  have g4s : ((x / 4 &&& m1 : Nat) : Int) + ((x &&& m1 : Nat) : Int) = ((s2 x : Nat) : Int) := by rw [← e2]; omega
  generalize s2 x = y at *
  have k2 := add_u64 (a := y / 16) (b := y) (by omega)
  have k3 : (BitVec.ofInt IntKind.u64.bits (((y / 16 + y) : Nat) : Int) &&& BitVec.ofInt IntKind.u64.bits 1085102592571150095).toNat = ((y / 16 + y) &&& m2) := and_toNat (y / 16 + y) m2 (by omega) (by decide)
  simp only [go_sem] at k3
  have e3 : (y / 16 + y &&& m2) = s3 y := rfl
  rw [e3] at k3
  generalize s3 y = z at *
  have l1 := add_u64 (a := z) (b := z / 256) (by omega)
  have l2 := add_u64 (a := z + z / 256) (b := (z + z / 256) / 65536) (by omega)
  have k2s : ((y / 16 : Nat) : Int) + (y : Int) = ((y / 16 + y : Nat) : Int) := by omega
  have l1s : (z : Int) + ((z / 256 : Nat) : Int) = ((z + z / 256 : Nat) : Int) := by omega
  have l2s : ((z + z / 256 : Nat) : Int) + (((z + z / 256) / 65536 : Nat) : Int) = ((z + z / 256 + (z + z / 256) / 65536 : Nat) : Int) := by omega
  have l3s : ((z + z / 256 + (z + z / 256) / 65536 : Nat) : Int) + (((z + z / 256 + (z + z / 256) / 65536) / 4294967296 : Nat) : Int) = ((z + z / 256 + (z + z / 256) / 65536 + (z + z / 256 + (z + z / 256) / 65536) / 4294967296 : Nat) : Int) := by omega
  have l3 := add_u64 (a := z + z / 256 + (z + z / 256) / 65536) (b := (z + z / 256 + (z + z / 256) / 65536) / 4294967296) (by omega)
  simp only [] at hpop
  generalize hq : z + z / 256 + (z + z / 256) / 65536 + (z + z / 256 + (z + z / 256) / 65536) / 4294967296 = q at *
  have hq2 : q < 10000000 := by omega
  have r1 : IntKind.i64.wrap (q : Int) = q := IntWalk.i64_in _ (by omega)
  have r2 : (BitVec.ofInt IntKind.i64.bits ((q : Nat) : Int) &&& BitVec.ofInt IntKind.i64.bits 127).toNat = (q &&& 127) := and_toNat q 127 (by omega) (by decide)
  simp only [go_sem] at r2
  rw [hpop] at r2
  have r3 : IntKind.i64.wrap ((popc n : Nat) : Int) = (popc n : Nat) := IntWalk.i64_in _ (by have := popc_le n; omega)
  refine con_of follows_mixed Try.func79 rfl (by simp only [List.length_cons, List.length_nil, Try.ntmps79]; omega) (by kernel_rfl) rfl ?_
  refine Exec.reg ?_
  refine Run.o1 (by simp only [go_sem, shr_1, shr_2, shr_4, shr_8, shr_16, shr_32, h2, h3, h4, g2, g3, g4, k2, k3, l1, l2, l3, h4s, g4s, k2s, l1s, l2s, l3s, hq, r1, r2, r3] <;> rfl) ?_
  refine Run.nil ?_
  refine Exec.reg ?_
  iterate 5 (refine Run.o1 (by simp only [go_sem, shr_1, shr_2, shr_4, shr_8, shr_16, shr_32, h2, h3, h4, g2, g3, g4, k2, k3, l1, l2, l3, h4s, g4s, k2s, l1s, l2s, l3s, hq, r1, r2, r3] <;> rfl) ?_)
  refine Run.o1 (by simp only [go_sem, shr_1, shr_2, shr_4, shr_8, shr_16, shr_32, h2, h3, h4, g2, g3, g4, k2, k3, l1, l2, l3, h4s, g4s, k2s, l1s, l2s, l3s, hq, r1, r2, r3]; (try simp (disch := omega) only [IntWalk.i64_in, IntWalk.u64_in, if_neg, if_pos])<;> rfl) ?_
  refine Run.o1 (by simp only [go_sem, shr_1, shr_2, shr_4, shr_8, shr_16, shr_32, h2, h3, h4, g2, g3, g4, k2, k3, l1, l2, l3, h4s, g4s, k2s, l1s, l2s, l3s, hq, r1, r2, r3] <;> rfl) ?_
  refine Run.nil ?_
  refine Exec.reg ?_
  iterate 5 (refine Run.o1 (by simp only [go_sem, shr_1, shr_2, shr_4, shr_8, shr_16, shr_32, h2, h3, h4, g2, g3, g4, k2, k3, l1, l2, l3, h4s, g4s, k2s, l1s, l2s, l3s, hq, r1, r2, r3] <;> rfl) ?_)
  refine Run.o1 (by simp only [go_sem, shr_1, shr_2, shr_4, shr_8, shr_16, shr_32, h2, h3, h4, g2, g3, g4, k2, k3, l1, l2, l3, h4s, g4s, k2s, l1s, l2s, l3s, hq, r1, r2, r3]; (try simp (disch := omega) only [IntWalk.i64_in, IntWalk.u64_in, if_neg, if_pos])<;> rfl) ?_
  refine Run.o1 (by simp only [go_sem, shr_1, shr_2, shr_4, shr_8, shr_16, shr_32, h2, h3, h4, g2, g3, g4, k2, k3, l1, l2, l3, h4s, g4s, k2s, l1s, l2s, l3s, hq, r1, r2, r3] <;> rfl) ?_
  refine Run.nil ?_
  refine Exec.reg ?_
  iterate 3 (refine Run.o1 (by simp only [go_sem, shr_1, shr_2, shr_4, shr_8, shr_16, shr_32, h2, h3, h4, g2, g3, g4, k2, k3, l1, l2, l3, h4s, g4s, k2s, l1s, l2s, l3s, hq, r1, r2, r3] <;> rfl) ?_)
  refine Run.o1 (by simp only [go_sem, shr_1, shr_2, shr_4, shr_8, shr_16, shr_32, h2, h3, h4, g2, g3, g4, k2, k3, l1, l2, l3, h4s, g4s, k2s, l1s, l2s, l3s, hq, r1, r2, r3]; (try simp (disch := omega) only [IntWalk.i64_in, IntWalk.u64_in, if_neg, if_pos])<;> rfl) ?_
  iterate 2 (refine Run.o1 (by simp only [go_sem, shr_1, shr_2, shr_4, shr_8, shr_16, shr_32, h2, h3, h4, g2, g3, g4, k2, k3, l1, l2, l3, h4s, g4s, k2s, l1s, l2s, l3s, hq, r1, r2, r3] <;> rfl) ?_)
  refine Run.nil ?_
  refine Exec.reg ?_
  iterate 3 (refine Run.o1 (by simp only [go_sem, shr_1, shr_2, shr_4, shr_8, shr_16, shr_32, h2, h3, h4, g2, g3, g4, k2, k3, l1, l2, l3, h4s, g4s, k2s, l1s, l2s, l3s, hq, r1, r2, r3] <;> rfl) ?_)
  refine Run.o1 (by simp only [go_sem, shr_1, shr_2, shr_4, shr_8, shr_16, shr_32, h2, h3, h4, g2, g3, g4, k2, k3, l1, l2, l3, h4s, g4s, k2s, l1s, l2s, l3s, hq, r1, r2, r3]; (try simp (disch := omega) only [IntWalk.i64_in, IntWalk.u64_in, if_neg, if_pos])<;> rfl) ?_
  refine Run.o1 (by simp only [go_sem, shr_1, shr_2, shr_4, shr_8, shr_16, shr_32, h2, h3, h4, g2, g3, g4, k2, k3, l1, l2, l3, h4s, g4s, k2s, l1s, l2s, l3s, hq, r1, r2, r3] <;> rfl) ?_
  refine Run.nil ?_
  refine Exec.reg ?_
  iterate 3 (refine Run.o1 (by simp only [go_sem, shr_1, shr_2, shr_4, shr_8, shr_16, shr_32, h2, h3, h4, g2, g3, g4, k2, k3, l1, l2, l3, h4s, g4s, k2s, l1s, l2s, l3s, hq, r1, r2, r3] <;> rfl) ?_)
  refine Run.o1 (by simp only [go_sem, shr_1, shr_2, shr_4, shr_8, shr_16, shr_32, h2, h3, h4, g2, g3, g4, k2, k3, l1, l2, l3, h4s, g4s, k2s, l1s, l2s, l3s, hq, r1, r2, r3]; (try simp (disch := omega) only [IntWalk.i64_in, IntWalk.u64_in, if_neg, if_pos])<;> rfl) ?_
  refine Run.o1 (by simp only [go_sem, shr_1, shr_2, shr_4, shr_8, shr_16, shr_32, h2, h3, h4, g2, g3, g4, k2, k3, l1, l2, l3, h4s, g4s, k2s, l1s, l2s, l3s, hq, r1, r2, r3] <;> rfl) ?_
  refine Run.nil ?_
  refine Exec.reg ?_
  iterate 3 (refine Run.o1 (by simp only [go_sem, shr_1, shr_2, shr_4, shr_8, shr_16, shr_32, h2, h3, h4, g2, g3, g4, k2, k3, l1, l2, l3, h4s, g4s, k2s, l1s, l2s, l3s, hq, r1, r2, r3] <;> rfl) ?_)
  refine Run.o1 (by simp only [go_sem, shr_1, shr_2, shr_4, shr_8, shr_16, shr_32, h2, h3, h4, g2, g3, g4, k2, k3, l1, l2, l3, h4s, g4s, k2s, l1s, l2s, l3s, hq, r1, r2, r3]; (try simp (disch := omega) only [IntWalk.i64_in, IntWalk.u64_in, if_neg, if_pos])<;> rfl) ?_
  refine Run.o1 (by simp only [go_sem, shr_1, shr_2, shr_4, shr_8, shr_16, shr_32, h2, h3, h4, g2, g3, g4, k2, k3, l1, l2, l3, h4s, g4s, k2s, l1s, l2s, l3s, hq, r1, r2, r3] <;> rfl) ?_
  refine Run.nil ?_
  refine Exec.reg ?_
  refine Run.o1 (by simp only [go_sem, shr_1, shr_2, shr_4, shr_8, shr_16, shr_32, h2, h3, h4, g2, g3, g4, k2, k3, l1, l2, l3, h4s, g4s, k2s, l1s, l2s, l3s, hq, r1, r2, r3] <;> rfl) ?_
  refine Run.o1 (by simp only [go_sem, shr_1, shr_2, shr_4, shr_8, shr_16, shr_32, h2, h3, h4, g2, g3, g4, k2, k3, l1, l2, l3, h4s, g4s, k2s, l1s, l2s, l3s, hq, r1, r2, r3]; (try simp (disch := omega) only [IntWalk.i64_in, IntWalk.u64_in, if_neg, if_pos])<;> rfl) ?_
  iterate 2 (refine Run.o1 (by simp only [go_sem, shr_1, shr_2, shr_4, shr_8, shr_16, shr_32, h2, h3, h4, g2, g3, g4, k2, k3, l1, l2, l3, h4s, g4s, k2s, l1s, l2s, l3s, hq, r1, r2, r3] <;> rfl) ?_)
  refine Run.nil ?_
  exact Ends.fin [] (rs := [.tmp 2]) rfl (by simp only [go_sem, shr_1, shr_2, shr_4, shr_8, shr_16, shr_32, h2, h3, h4, g2, g3, g4, k2, k3, l1, l2, l3, h4s, g4s, k2s, l1s, l2s, l3s, hq, r1, r2, r3] <;> rfl) (by simp only [go_sem, shr_1, shr_2, shr_4, shr_8, shr_16, shr_32, h2, h3, h4, g2, g3, g4, k2, k3, l1, l2, l3, h4s, g4s, k2s, l1s, l2s, l3s, hq, r1, r2, r3] <;> first | rfl | ((repeat' (first | with_reducible_and_instances rfl | refine st_eq ?_ ?_ ?_ | refine ret_eq ?_ | refine tup_eq ?_ | refine tm_eq ?_ ?_ | refine arr_eq ?_ | refine cells_eq ?_ | refine val_eq ?_ | refine ls_eq ?_ ?_ | refine own_eq ?_ ?_ | refine sl_eq ?_ | refine b_eq ?_ | (refine i_eq ?_; omega))); done))

end Go.Mw

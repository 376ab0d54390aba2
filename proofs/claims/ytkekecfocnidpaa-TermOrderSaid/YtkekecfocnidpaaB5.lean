/- Contracts of the functions that the term reaches: small ones. -/
import Derived.Test.YtkekecfocnidpaaB4
set_option linter.unusedSimpArgs false
set_option linter.unusedVariables false
set_option linter.unusedSectionVars false
set_option linter.deprecated false
namespace Go.Mw
open Go.Proofs
open Go.Te
theorem int_eq {a b : Int} (h : (a != b) = false) : a = b := by simpa using h
theorem pow2_bnd {k : Nat} (h : k ≤ 20) : 1 ≤ (2 : Int) ^ k ∧ (2 : Int) ^ k ≤ 1048576 := by
  have h1 : 2 ^ k ≤ 2 ^ 20 := Nat.pow_le_pow_right (by decide) h
  have h2 : 1 ≤ 2 ^ k := Nat.one_le_two_pow
  have e : (2 : Int) ^ k = ((2 ^ k : Nat) : Int) := by simp
  have h3 : (2 : Nat) ^ 20 = 1048576 := by decide
  omega
theorem any_neg {α : Type} {p : α → Bool} (l : List α) : l.any (fun s => !p s) = !l.all p := by rw [List.not_all_eq_any_not]
set_option maxRecDepth 20000 in
/-- meterworks/meterworksref07.in -/
theorem c_meterworksref07_in (n l h : Int) : Contract Try.prog 29 [.int n, .int l, .int h] (.bool (inB n l h)) [] := by
  refine con_of follows_mixed Try.func29 rfl (by simp only [List.length_cons, List.length_nil, Try.ntmps29]; omega) (by kernel_rfl) rfl ?_
  refine Exec.reg ?_
  refine Run.o ?_
  refine Run.nil ?_
  refine Exec.reg ?_
  iterate 2 (refine Run.o ?_)
  iterate 2 (refine Run.o1 (by simp only [go_sem, inB] <;> rfl) ?_)
  iterate 2 (refine Run.gop (by simp only [go_sem] <;> rfl) (by simp only [go_sem] <;> rfl) (by simp only [go_sem] <;> rfl) ?_)
  refine Run.gop (by simp only [go_sem] <;> rfl) (by simp only [go_sem, inB] <;> rfl) (by simp only [go_sem] <;> rfl) ?_
  refine Run.o1 (by simp only [go_sem, inB] <;> rfl) ?_
  refine Run.o ?_
  refine Run.nil ?_
  exact Ends.fin [] (rs := [.tmp 6]) rfl (by simp only [go_sem, inB] <;> rfl) (by simp only [go_sem, inB] <;> first | rfl | ((repeat' (first | with_reducible_and_instances rfl | refine st_eq ?_ ?_ ?_ | refine ret_eq ?_ | refine tup_eq ?_ | refine tm_eq ?_ ?_ | refine arr_eq ?_ | refine cells_eq ?_ | refine val_eq ?_ | refine ls_eq ?_ ?_ | refine own_eq ?_ ?_ | refine sl_eq ?_ | refine b_eq ?_ | (refine i_eq ?_; omega))); done))

set_option maxRecDepth 20000 in
/-- meterworks/term.within -/
theorem c_term_within (n l h : Int) : Contract Try.prog 31 [.int n, .int l, .int h] (.bool (inB n l h)) [] := by
  refine con_of follows_mixed Try.func31 rfl (by simp only [List.length_cons, List.length_nil, Try.ntmps31]; omega) (by kernel_rfl) rfl ?_
  refine Exec.reg ?_
  refine Run.o ?_
  refine Run.nil ?_
  refine Exec.reg ?_
  iterate 2 (refine Run.o ?_)
  iterate 2 (refine Run.o1 (by simp only [go_sem, inB] <;> rfl) ?_)
  iterate 2 (refine Run.gop (by simp only [go_sem] <;> rfl) (by simp only [go_sem] <;> rfl) (by simp only [go_sem] <;> rfl) ?_)
  refine Run.gop (by simp only [go_sem] <;> rfl) (by simp only [go_sem, inB] <;> rfl) (by simp only [go_sem] <;> rfl) ?_
  refine Run.o1 (by simp only [go_sem, inB] <;> rfl) ?_
  refine Run.o ?_
  refine Run.nil ?_
  exact Ends.fin [] (rs := [.tmp 6]) rfl (by simp only [go_sem, inB] <;> rfl) (by simp only [go_sem, inB] <;> first | rfl | ((repeat' (first | with_reducible_and_instances rfl | refine st_eq ?_ ?_ ?_ | refine ret_eq ?_ | refine tup_eq ?_ | refine tm_eq ?_ ?_ | refine arr_eq ?_ | refine cells_eq ?_ | refine val_eq ?_ | refine ls_eq ?_ ?_ | refine own_eq ?_ ?_ | refine sl_eq ?_ | refine b_eq ?_ | (refine i_eq ?_; omega))); done))

set_option maxRecDepth 20000 in
/-- meterworks/term.isDay -/
theorem c_term_isDay (n : Int) : Contract Try.prog 25 [.int n] (.bool (inB n 0 131072)) [] := by
  refine con_of follows_mixed Try.func25 rfl (by simp only [List.length_cons, List.length_nil, Try.ntmps25]; omega) (by kernel_rfl) rfl ?_
  refine Exec.reg ?_
  refine Run.o ?_
  refine Run.nil ?_
  refine Exec.reg ?_
  refine Run.o ?_
  refine Run.c1 (c_term_within _ _ _) (by simp only [go_sem] <;> rfl) (by simp only [go_sem] <;> rfl) ?_
  refine Run.o ?_
  refine Run.nil ?_
  exact Ends.fin [] (rs := [.tmp 2]) rfl (by simp only [go_sem] <;> rfl) (by simp only [go_sem] <;> first | rfl | ((repeat' (first | with_reducible_and_instances rfl | refine st_eq ?_ ?_ ?_ | refine ret_eq ?_ | refine tup_eq ?_ | refine tm_eq ?_ ?_ | refine arr_eq ?_ | refine cells_eq ?_ | refine val_eq ?_ | refine ls_eq ?_ ?_ | refine own_eq ?_ ?_ | refine sl_eq ?_ | refine b_eq ?_ | (refine i_eq ?_; omega))); done))

set_option maxRecDepth 20000 in
/-- meterworks/term.isSeal -/
theorem c_term_isSeal (n : Int) : Contract Try.prog 49 [.int n] (.bool (inB n 1 1000000)) [] := by
  refine con_of follows_mixed Try.func49 rfl (by simp only [List.length_cons, List.length_nil, Try.ntmps49]; omega) (by kernel_rfl) rfl ?_
  refine Exec.reg ?_
  refine Run.o ?_
  refine Run.nil ?_
  refine Exec.reg ?_
  refine Run.o ?_
  refine Run.c1 (c_term_within _ _ _) (by simp only [go_sem] <;> rfl) (by simp only [go_sem] <;> rfl) ?_
  refine Run.o ?_
  refine Run.nil ?_
  exact Ends.fin [] (rs := [.tmp 2]) rfl (by simp only [go_sem] <;> rfl) (by simp only [go_sem] <;> first | rfl | ((repeat' (first | with_reducible_and_instances rfl | refine st_eq ?_ ?_ ?_ | refine ret_eq ?_ | refine tup_eq ?_ | refine tm_eq ?_ ?_ | refine arr_eq ?_ | refine cells_eq ?_ | refine val_eq ?_ | refine ls_eq ?_ ?_ | refine own_eq ?_ ?_ | refine sl_eq ?_ | refine b_eq ?_ | (refine i_eq ?_; omega))); done))

set_option maxRecDepth 20000 in
/-- meterworks/meterworksref07.power -/
theorem c_meterworksref07_power (n : Nat) (hn : n ≤ 20) : Contract Try.prog 32 [.int n] (.int (2 ^ n)) [] := by
  refine con_of follows_mixed Try.func32 rfl (by simp only [List.length_cons, List.length_nil, Try.ntmps32]; omega) (by kernel_rfl) rfl ?_
  refine Exec.reg ?_
  refine Run.o ?_
  refine Run.nil ?_
  refine Exec.reg ?_
  refine Run.o ?_
  refine Run.nil ?_
  refine Exec.assocS ?_
  refine Exec.reg ?_
  refine Run.o ?_
  refine Run.nil ?_
  refine Exec.blk ?_
  refine Exec.forA [0, 3, 4] [] (n) (fun k => [.slot 3 (.int (2 ^ k)), .slot 4 (.int k)]) (fun _ => True) (fun k => by simp only [go_sem] <;> rfl) (by simp only [go_sem, Int.pow_zero, Int.natCast_zero] <;> rfl) ?_ (fun k hk hX => ?_)
  · trivial
  refine Exec.assocS ?_
  refine Exec.reg ?_
  iterate 3 (refine Run.o ?_)
  refine Run.nil ?_
  refine Exec.cndS (by simp only [go_sem] <;> rfl) (fun hb7 => ?_) (fun hb7 => ?_)
  · skip
    have hlt : k < n := by have := of_decide_eq_true hb7; omega
    have hp := pow2_bnd (k := k) (by omega)
    have hs : (2 : Int) * 2 ^ k = 2 ^ (k + 1) := by rw [Int.pow_succ]; omega
    refine Exec.skipS ?_
    refine Exec.blk ?_
    refine Exec.reg1 ?_
    refine Run.o ?_
    refine Run.o1 (by simp only [go_sem, hs]; (try simp (disch := omega) only [IntWalk.i64_in, IntWalk.u64_in, if_neg, if_pos])<;> rfl) ?_
    refine Run.o ?_
    refine Run.nil ?_
    refine BlkK.nrm ?_
    refine Exec.reg1 ?_
    refine Run.o ?_
    refine Run.o1 (by simp only [go_sem, hs]; (try simp (disch := omega) only [IntWalk.i64_in, IntWalk.u64_in, if_neg, if_pos])<;> rfl) ?_
    refine Run.o ?_
    refine Run.nil ?_
    refine ForK.nxt ?_ ?_ ?_
    · omega
    · exact Ghost.kp [0, 3, 4] [] (by simp only [go_sem, hs]; first | ((repeat' (first | with_reducible_and_instances rfl | refine st_eq ?_ ?_ ?_ | refine ret_eq ?_ | refine tup_eq ?_ | refine tm_eq ?_ ?_ | refine arr_eq ?_ | refine cells_eq ?_ | refine val_eq ?_ | refine ls_eq ?_ ?_ | refine own_eq ?_ ?_ | refine sl_eq ?_ | refine b_eq ?_ | (refine i_eq ?_; omega))); done) | rfl)
    · trivial
  have hke : k = n := by have := of_decide_eq_false hb7; omega
  subst hke
  refine Exec.exitS ?_
  refine ForK.ext ?_
  refine BlkK.hit ?_
  refine Exec.reg ?_
  iterate 2 (refine Run.o ?_)
  refine Run.nil ?_
  exact Ends.fin [] (rs := [.tmp 2]) rfl (by simp only [go_sem] <;> rfl) (by simp only [go_sem] <;> first | rfl | ((repeat' (first | with_reducible_and_instances rfl | refine st_eq ?_ ?_ ?_ | refine ret_eq ?_ | refine tup_eq ?_ | refine tm_eq ?_ ?_ | refine arr_eq ?_ | refine cells_eq ?_ | refine val_eq ?_ | refine ls_eq ?_ ?_ | refine own_eq ?_ ?_ | refine sl_eq ?_ | refine b_eq ?_ | (refine i_eq ?_; omega))); done))

set_option maxRecDepth 20000 in
/-- (*meterworks/term.row).has -/
theorem c_row_has (p : Sl × Int × Int) (x : Int) : Contract Try.prog 40 [.leaf (.d (.pt (encRow p))), .int x] (.bool (inB x p.1.fr p.1.to)) [] := by
  refine con_of follows_mixed Try.func40 rfl (by simp only [List.length_cons, List.length_nil, Try.ntmps40]; omega) (by kernel_rfl) rfl ?_
  refine Exec.reg ?_
  refine Run.o ?_
  refine Run.nil ?_
  refine Exec.opk 15 ?_
  iterate 11 (refine OpenK.o ?_)
  refine OpenK.cal (c_term_within _ _ _) (by simp only [go_sem]) (by simp only [go_sem] <;> rfl) (by exact ⟨by first | exact WkR.pure rfl | exact WkR.nil _ | exact WkR.int (by first | omega | (simp; done) | (simp; omega)), by first | exact WkR.pure rfl | exact WkR.nil _ | exact WkR.int (by first | omega | (simp; done) | (simp; omega)), by first | exact WkR.pure rfl | exact WkR.nil _ | exact WkR.int (by first | omega | (simp; done) | (simp; omega)), trivial⟩) (fr0) (by simp only [go_sem] <;> rfl) (by simp only [go_sem] <;> rfl) (by simp only [go_sem] <;> rfl) ?_
  refine OpenK.o ?_
  refine OpenK.nil (OpenE.fin (by decide +kernel) (by decide +kernel) ?_)
  exact Ends.fin [] (rs := [.tmp 4]) rfl (by simp only [go_sem] <;> rfl) (by simp only [go_sem] <;> first | rfl | ((repeat' (first | with_reducible_and_instances rfl | refine st_eq ?_ ?_ ?_ | refine ret_eq ?_ | refine tup_eq ?_ | refine tm_eq ?_ ?_ | refine arr_eq ?_ | refine cells_eq ?_ | refine val_eq ?_ | refine ls_eq ?_ ?_ | refine own_eq ?_ ?_ | refine sl_eq ?_ | refine b_eq ?_ | (refine i_eq ?_; omega))); done))

set_option maxRecDepth 20000 in
/-- meterworks/meterworksref07.Row -/
theorem c_meterworksref07_Row (s : Stk) (x : Int) (h : s.rs.length ≤ 100) : Contract Try.prog 19 [stkV s, .int x] (.int (idxI (rowI s x))) [] := by
  refine con_of follows_mixed Try.func19 rfl (by simp only [List.length_cons, List.length_nil, Try.ntmps19]; omega) (by kernel_rfl) rfl ?_
  refine Exec.reg ?_
  iterate 2 (refine Run.o ?_)
  refine Run.nil ?_
  refine Exec.assocS ?_
  refine Exec.reg ?_
  refine Run.o ?_
  refine Run.nil ?_
  refine Exec.blk ?_
  refine Exec.forA [1, 2, 5] [2] (s.rs.length) (fun k => [.slot 5 (.int k)]) (fun k => (s.rs.take k).any (fun r => inB x r.fr r.to) = false) (fun k => by simp only [go_sem] <;> rfl) (by simp only [go_sem] <;> rfl) ?_ (fun k hk hX => ?_)
  · rfl
  refine Exec.assocS ?_
  refine Exec.reg ?_
  iterate 5 (refine Run.o ?_)
  refine Run.nil ?_
  refine Exec.cndS (by simp only [go_sem] <;> rfl) (fun hb10 => ?_) (fun hb10 => ?_)
  · skip
    have hlt := lt_of_dec hb10
    obtain ⟨r, hs⟩ := elem_of hb10
    refine Exec.skipS ?_
    refine Exec.blk ?_
    refine Exec.opk 16 ?_
    iterate 2 (refine OpenK.o ?_)
    refine OpenK.o1 (by simp only [go_sem, hs] <;> rfl) ?_
    refine OpenK.o ?_
    refine OpenK.o1 (by simp only [go_sem, hs]; (try simp (disch := omega) only [if_pos]); (try simp only [go_sem, hs])<;> rfl) ?_
    refine OpenK.o ?_
    refine OpenK.o1 (by simp only [go_sem, hs] <;> rfl) ?_
    refine OpenK.o ?_
    refine OpenK.o1 (by simp only [go_sem, hs] <;> rfl) ?_
    refine OpenK.o ?_
    refine OpenK.o1 (by simp only [go_sem, hs]; (try simp (disch := omega) only [if_pos]); (try simp only [go_sem, hs])<;> rfl) ?_
    refine OpenK.o ?_
    refine OpenK.o1 (by simp only [go_sem, hs] <;> rfl) ?_
    refine OpenK.cal (c_meterworksref07_in _ _ _) (by simp only [go_sem]) (by simp only [go_sem, hs] <;> rfl) (by exact ⟨by first | exact WkR.pure rfl | exact WkR.nil _ | exact WkR.int (by first | omega | (simp; done) | (simp; omega)), by first | exact WkR.pure rfl | exact WkR.nil _ | exact WkR.int (by first | omega | (simp; done) | (simp; omega)), by first | exact WkR.pure rfl | exact WkR.nil _ | exact WkR.int (by first | omega | (simp; done) | (simp; omega)), trivial⟩) (fr0) (by simp only [go_sem, hs] <;> rfl) (by simp only [go_sem] <;> rfl) (by simp only [go_sem] <;> rfl) ?_
    refine OpenK.nil (OpenE.fin (by decide +kernel) (by decide +kernel) ?_)
    refine Exec.cnd (by simp only [go_sem, hs] <;> rfl) (fun hb26 => ?_) (fun hb26 => ?_)
    · skip
      have hr : rowI s x = some k := find_at hX hs hb26
      refine Exec.reg ?_
      iterate 2 (refine Run.o ?_)
      refine Run.nil ?_
      refine BlkK.ret ?_
      refine ForK.ret ?_
      refine BlkK.ret ?_
      exact Ends.fin [] (rs := [.tmp 4]) rfl (by simp only [go_sem, hs, hr, idxI] <;> rfl) (by simp only [go_sem, hs, hr, idxI] <;> first | rfl | ((repeat' (first | with_reducible_and_instances rfl | refine st_eq ?_ ?_ ?_ | refine ret_eq ?_ | refine tup_eq ?_ | refine tm_eq ?_ ?_ | refine arr_eq ?_ | refine cells_eq ?_ | refine val_eq ?_ | refine ls_eq ?_ ?_ | refine own_eq ?_ ?_ | refine sl_eq ?_ | refine b_eq ?_ | (refine i_eq ?_; omega))); done))
    refine BlkK.nrm ?_
    refine Exec.reg1 ?_
    refine Run.o ?_
    refine Run.o1 (by simp only [go_sem, hs]; (try simp (disch := omega) only [IntWalk.i64_in, IntWalk.u64_in, if_neg, if_pos])<;> rfl) ?_
    refine Run.o ?_
    refine Run.nil ?_
    refine ForK.nxt ?_ ?_ ?_
    · omega
    · exact Ghost.kp [1, 2, 5] [2] (by simp only [go_sem, hs]; first | ((repeat' (first | with_reducible_and_instances rfl | refine st_eq ?_ ?_ ?_ | refine ret_eq ?_ | refine tup_eq ?_ | refine tm_eq ?_ ?_ | refine arr_eq ?_ | refine cells_eq ?_ | refine val_eq ?_ | refine ls_eq ?_ ?_ | refine own_eq ?_ ?_ | refine sl_eq ?_ | refine b_eq ?_ | (refine i_eq ?_; omega))); done) | rfl)
    · exact any_step hX hs hb26
  have hr : rowI s x = none := find_none hX (ge_of_dec hb10)
  refine Exec.exitS ?_
  refine ForK.ext ?_
  refine BlkK.hit ?_
  refine Exec.reg ?_
  refine Run.o ?_
  refine Run.nil ?_
  exact Ends.fin [] (rs := [.tmp 4]) rfl (by simp only [go_sem, hr, idxI] <;> rfl) (by simp only [go_sem, hr, idxI] <;> first | rfl | ((repeat' (first | with_reducible_and_instances rfl | refine st_eq ?_ ?_ ?_ | refine ret_eq ?_ | refine tup_eq ?_ | refine tm_eq ?_ ?_ | refine arr_eq ?_ | refine cells_eq ?_ | refine val_eq ?_ | refine ls_eq ?_ ?_ | refine own_eq ?_ ?_ | refine sl_eq ?_ | refine b_eq ?_ | (refine i_eq ?_; omega))); done))

theorem find_first {α : Type} {l : List α} {p : α → Bool} {k : Nat} {s : α} (h : (l.take k).any p = false) (hs : l[k]? = some s) (hp : p s = true) : l.find? p = some s := by
  have h1 : l = l.take k ++ s :: l.drop (k + 1) := by
    obtain ⟨h1, rfl⟩ := List.getElem?_eq_some_iff.1 hs
    rw [List.getElem_cons_drop h1, List.take_append_drop]
  rw [h1, List.find?_append, List.find?_eq_none.2 (fun y hy => by have := List.any_eq_false.1 h y hy; simpa using this)]
  simp [hp]
theorem find_never {α : Type} {l : List α} {p : α → Bool} {k : Nat} (h : (l.take k).any p = false) (hk : l.length ≤ k) : l.find? p = none := by
  rw [List.take_of_length_le hk] at h
  exact List.find?_eq_none.2 fun y hy => by have := List.any_eq_false.1 h y hy; simpa using this
def brkV (o : Option Br) : AV := match o with
  | some b => .tup [(false, [.d (.i b.day)]), (false, [.d (.raw (.bool true))])]
  | none => .tup [(false, [.d (.i 0)]), (false, [.d (.raw (.bool false))])]
set_option maxRecDepth 20000 in
/-- meterworks/meterworksref07.breaks -/
theorem c_meterworksref07_breaks (s : Stk) (x : Int) (h : s.bs.length ≤ 100) : Contract Try.prog 35 [stkV s, .int x] (brkV (brkD s x)) [] := by
  refine con_of follows_mixed Try.func35 rfl (by simp only [List.length_cons, List.length_nil, Try.ntmps35]; omega) (by kernel_rfl) rfl ?_
  refine Exec.reg ?_
  iterate 3 (refine Run.o ?_)
  refine Run.nil ?_
  refine Exec.assocS ?_
  refine Exec.reg ?_
  refine Run.o ?_
  refine Run.nil ?_
  refine Exec.blk ?_
  refine Exec.forA [1, 2, 6] [2] (s.bs.length) (fun k => [.slot 6 (.int k)]) (fun k => (s.bs.take k).any (fun b => b.no == x) = false) (fun k => by simp only [go_sem] <;> rfl) (by simp only [go_sem] <;> rfl) ?_ (fun k hk hX => ?_)
  · rfl
  refine Exec.assocS ?_
  refine Exec.reg ?_
  iterate 5 (refine Run.o ?_)
  refine Run.nil ?_
  refine Exec.cndS (by simp only [go_sem] <;> rfl) (fun hb11 => ?_) (fun hb11 => ?_)
  · skip
    have hlt := lt_of_dec hb11
    obtain ⟨r, hs⟩ := elem_of hb11
    refine Exec.skipS ?_
    refine Exec.blk ?_
    refine Exec.reg ?_
    refine Run.o ?_
    refine Run.o1 (by simp only [go_sem, hs, Int.toNat_zero, Nat.zero_mul, Int.toNat_one, Nat.one_mul] <;> rfl) ?_
    refine Run.o ?_
    iterate 2 (refine Run.o1 (by simp only [go_sem, hs, Int.toNat_zero, Nat.zero_mul, Int.toNat_one, Nat.one_mul]; (try simp (disch := omega) only [if_pos]); (try simp only [go_sem, hs, Int.toNat_zero, Nat.zero_mul, Int.toNat_one, Nat.one_mul])<;> rfl) ?_)
    refine Run.o1 (by simp only [go_sem, hs, Int.toNat_zero, Nat.zero_mul, Int.toNat_one, Nat.one_mul] <;> rfl) ?_
    refine Run.o ?_
    refine Run.o1 (by simp only [go_sem, hs, Int.toNat_zero, Nat.zero_mul, Int.toNat_one, Nat.one_mul] <;> rfl) ?_
    refine Run.nil ?_
    refine Exec.cnd (by simp only [go_sem, hs, Int.toNat_zero, Nat.zero_mul, Int.toNat_one, Nat.one_mul] <;> rfl) (fun hb21 => ?_) (fun hb21 => ?_)
    · skip
      have hr : brkD s x = some r := find_first hX hs hb21
      refine Exec.reg ?_
      refine Run.o ?_
      refine Run.o1 (by simp only [go_sem, hs, Int.toNat_zero, Nat.zero_mul, Int.toNat_one, Nat.one_mul, hr, brkV] <;> rfl) ?_
      refine Run.o ?_
      iterate 2 (refine Run.o1 (by simp only [go_sem, hs, Int.toNat_zero, Nat.zero_mul, Int.toNat_one, Nat.one_mul, hr, brkV]; (try simp (disch := omega) only [if_pos]); (try simp only [go_sem, hs, Int.toNat_zero, Nat.zero_mul, Int.toNat_one, Nat.one_mul, hr, brkV])<;> rfl) ?_)
      refine Run.o1 (by simp only [go_sem, hs, Int.toNat_zero, Nat.zero_mul, Int.toNat_one, Nat.one_mul, hr, brkV] <;> rfl) ?_
      iterate 2 (refine Run.o ?_)
      refine Run.nil ?_
      refine BlkK.ret ?_
      refine ForK.ret ?_
      refine BlkK.ret ?_
      exact Ends.fin [] (rs := [.tmp 4, .tmp 5]) rfl (by simp only [go_sem, hs, Int.toNat_zero, Nat.zero_mul, Int.toNat_one, Nat.one_mul, hr, brkV] <;> rfl) (by simp only [go_sem, hs, Int.toNat_zero, Nat.zero_mul, Int.toNat_one, Nat.one_mul, hr, brkV] <;> first | rfl | ((repeat' (first | with_reducible_and_instances rfl | refine st_eq ?_ ?_ ?_ | refine ret_eq ?_ | refine tup_eq ?_ | refine tm_eq ?_ ?_ | refine arr_eq ?_ | refine cells_eq ?_ | refine val_eq ?_ | refine ls_eq ?_ ?_ | refine own_eq ?_ ?_ | refine sl_eq ?_ | refine b_eq ?_ | (refine i_eq ?_; omega))); done))
    refine BlkK.nrm ?_
    refine Exec.reg1 ?_
    refine Run.o ?_
    refine Run.o1 (by simp only [go_sem, hs, Int.toNat_zero, Nat.zero_mul, Int.toNat_one, Nat.one_mul]; (try simp (disch := omega) only [IntWalk.i64_in, IntWalk.u64_in, if_neg, if_pos])<;> rfl) ?_
    refine Run.o ?_
    refine Run.nil ?_
    refine ForK.nxt ?_ ?_ ?_
    · omega
    · exact Ghost.kp [1, 2, 6] [2] (by simp only [go_sem, hs, Int.toNat_zero, Nat.zero_mul, Int.toNat_one, Nat.one_mul]; first | ((repeat' (first | with_reducible_and_instances rfl | refine st_eq ?_ ?_ ?_ | refine ret_eq ?_ | refine tup_eq ?_ | refine tm_eq ?_ ?_ | refine arr_eq ?_ | refine cells_eq ?_ | refine val_eq ?_ | refine ls_eq ?_ ?_ | refine own_eq ?_ ?_ | refine sl_eq ?_ | refine b_eq ?_ | (refine i_eq ?_; omega))); done) | rfl)
    · exact any_step hX hs hb21
  have hr : brkD s x = none := find_never hX (ge_of_dec hb11)
  refine Exec.exitS ?_
  refine ForK.ext ?_
  refine BlkK.hit ?_
  refine Exec.reg ?_
  iterate 2 (refine Run.o ?_)
  refine Run.nil ?_
  exact Ends.fin [] (rs := [.tmp 4, .tmp 5]) rfl (by simp only [go_sem, hr, brkV] <;> rfl) (by simp only [go_sem, hr, brkV] <;> first | rfl | ((repeat' (first | with_reducible_and_instances rfl | refine st_eq ?_ ?_ ?_ | refine ret_eq ?_ | refine tup_eq ?_ | refine tm_eq ?_ ?_ | refine arr_eq ?_ | refine cells_eq ?_ | refine val_eq ?_ | refine ls_eq ?_ ?_ | refine own_eq ?_ ?_ | refine sl_eq ?_ | refine b_eq ?_ | (refine i_eq ?_; omega))); done))

set_option maxRecDepth 20000 in
/-- meterworks/meterworksref07.IsBroken -/
theorem c_meterworksref07_IsBroken (s : Stk) (x d : Int) (h : s.bs.length ≤ 100) : Contract Try.prog 21 [stkV s, .int x, .int d] (.bool (isBrk s x d)) [] := by
  cases hb : brkD s x
  · skip
    have hr : isBrk s x d = false := by unfold isBrk; rw [hb]
    refine con_of follows_mixed Try.func21 rfl (by simp only [List.length_cons, List.length_nil, Try.ntmps21]; omega) (by kernel_rfl) rfl ?_
    refine Exec.reg ?_
    iterate 2 (refine Run.o ?_)
    refine Run.nil ?_
    refine Exec.reg ?_
    refine Run.o1 (by simp only [go_sem, hr, hb, brkV] <;> rfl) ?_
    refine Run.o ?_
    refine Run.c1 (c_meterworksref07_breaks s x h) (by simp only [go_sem, hr, hb, brkV] <;> rfl) (by simp only [go_sem, hr, hb, brkV] <;> rfl) ?_
    refine Run.o ?_
    iterate 2 (refine Run.o1 (by simp only [go_sem, hr, hb, brkV] <;> rfl) ?_)
    iterate 2 (refine Run.o ?_)
    refine Run.nil ?_
    refine Exec.reg ?_
    refine Run.o ?_
    refine Run.o1 (by simp only [go_sem, hr, hb, brkV] <;> rfl) ?_
    iterate 2 (refine Run.gop (by simp only [go_sem] <;> rfl) (by simp only [go_sem] <;> rfl) (by simp only [go_sem] <;> rfl) ?_)
    refine Run.gop (by simp only [go_sem] <;> rfl) (by simp only [go_sem, hr, hb, brkV] <;> rfl) (by simp only [go_sem] <;> rfl) ?_
    refine Run.o1 (by simp only [go_sem, hr, hb, brkV] <;> rfl) ?_
    refine Run.o ?_
    refine Run.nil ?_
    exact Ends.fin [] (rs := [.tmp 6]) rfl (by simp only [go_sem, hr, hb, brkV] <;> rfl) (by simp only [go_sem, hr, hb, brkV] <;> first | rfl | ((repeat' (first | with_reducible_and_instances rfl | refine st_eq ?_ ?_ ?_ | refine ret_eq ?_ | refine tup_eq ?_ | refine tm_eq ?_ ?_ | refine arr_eq ?_ | refine cells_eq ?_ | refine val_eq ?_ | refine ls_eq ?_ ?_ | refine own_eq ?_ ?_ | refine sl_eq ?_ | refine b_eq ?_ | (refine i_eq ?_; omega))); done))
  · skip
    rename_i b
    have hr : isBrk s x d = decide (b.day ≤ d) := by unfold isBrk; rw [hb]
    refine con_of follows_mixed Try.func21 rfl (by simp only [List.length_cons, List.length_nil, Try.ntmps21]; omega) (by kernel_rfl) rfl ?_
    refine Exec.reg ?_
    iterate 2 (refine Run.o ?_)
    refine Run.nil ?_
    refine Exec.reg ?_
    refine Run.o1 (by simp only [go_sem, hr, hb, brkV] <;> rfl) ?_
    refine Run.o ?_
    refine Run.c1 (c_meterworksref07_breaks s x h) (by simp only [go_sem, hr, hb, brkV] <;> rfl) (by simp only [go_sem, hr, hb, brkV] <;> rfl) ?_
    refine Run.o ?_
    iterate 2 (refine Run.o1 (by simp only [go_sem, hr, hb, brkV] <;> rfl) ?_)
    iterate 2 (refine Run.o ?_)
    refine Run.nil ?_
    refine Exec.reg ?_
    refine Run.o ?_
    refine Run.o1 (by simp only [go_sem, hr, hb, brkV] <;> rfl) ?_
    iterate 2 (refine Run.gop (by simp only [go_sem] <;> rfl) (by simp only [go_sem] <;> rfl) (by simp only [go_sem] <;> rfl) ?_)
    refine Run.gop (by simp only [go_sem] <;> rfl) (by simp only [go_sem, hr, hb, brkV] <;> rfl) (by simp only [go_sem] <;> rfl) ?_
    refine Run.o1 (by simp only [go_sem, hr, hb, brkV] <;> rfl) ?_
    refine Run.o ?_
    refine Run.nil ?_
    exact Ends.fin [] (rs := [.tmp 6]) rfl (by simp only [go_sem, hr, hb, brkV] <;> rfl) (by simp only [go_sem, hr, hb, brkV] <;> first | rfl | ((repeat' (first | with_reducible_and_instances rfl | refine st_eq ?_ ?_ ?_ | refine ret_eq ?_ | refine tup_eq ?_ | refine tm_eq ?_ ?_ | refine arr_eq ?_ | refine cells_eq ?_ | refine val_eq ?_ | refine ls_eq ?_ ?_ | refine own_eq ?_ ?_ | refine sl_eq ?_ | refine b_eq ?_ | (refine i_eq ?_; omega))); done))

set_option maxRecDepth 20000 in
/-- meterworks/meterworksref07.Ints -/
theorem c_meterworksref07_Ints (l m : List Int) (h1 : l.length ≤ 100000) (h2 : m.length ≤ 100000) : Contract Try.prog 14 [.leaf (.d (intsD l)), .leaf (.d (intsD m))] (.bool (decide (l = m))) [] := by
  refine con_of follows_mixed Try.func14 rfl (by simp only [List.length_cons, List.length_nil, Try.ntmps14]; omega) (by kernel_rfl) rfl ?_
  refine Exec.reg ?_
  refine Run.o ?_
  refine Run.nil ?_
  refine Exec.assocS ?_
  refine Exec.reg ?_
  iterate 5 (refine Run.o ?_)
  refine Run.nil ?_
  refine Exec.cndS (by simp only [go_sem] <;> rfl) (fun hb10 => ?_) (fun hb10 => ?_)
  · skip
    have hr : decide (l = m) = false := by rw [decide_eq_false_iff_not]; rintro rfl; simp at hb10
    refine Exec.assocS ?_
    refine Exec.reg ?_
    refine Run.o ?_
    refine Run.nil ?_
    refine Exec.retS ?_
    exact Ends.fin [] (rs := [.tmp 4]) rfl (by simp only [go_sem, hr] <;> rfl) (by simp only [go_sem, hr] <;> first | rfl | ((repeat' (first | with_reducible_and_instances rfl | refine st_eq ?_ ?_ ?_ | refine ret_eq ?_ | refine tup_eq ?_ | refine tm_eq ?_ ?_ | refine arr_eq ?_ | refine cells_eq ?_ | refine val_eq ?_ | refine ls_eq ?_ ?_ | refine own_eq ?_ ?_ | refine sl_eq ?_ | refine b_eq ?_ | (refine i_eq ?_; omega))); done))
  have hlen : l.length = m.length := Int.ofNat_inj.1 (by simpa using hb10)
  refine Exec.skipS ?_
  refine Exec.assocS ?_
  refine Exec.reg ?_
  refine Run.o ?_
  refine Run.nil ?_
  refine Exec.blk ?_
  refine Exec.forA [0, 1, 5] [] (l.length) (fun k => [.slot 5 (.int k)]) (fun k => ∀ j, j < k → l[j]? = m[j]?) (fun k => by simp only [go_sem] <;> rfl) (by simp only [go_sem] <;> rfl) ?_ (fun k hk hX => ?_)
  · exact fun j hj => absurd hj (by omega)
  refine Exec.assocS ?_
  refine Exec.reg ?_
  iterate 4 (refine Run.o ?_)
  refine Run.nil ?_
  refine Exec.cndS (by simp only [go_sem] <;> rfl) (fun hb14 => ?_) (fun hb14 => ?_)
  · skip
    have hlt := lt_of_dec hb14
    obtain ⟨a, ha⟩ : ∃ a, l[k]? = some a := ⟨_, List.getElem?_eq_getElem hlt⟩
    obtain ⟨b, hb⟩ : ∃ b, m[k]? = some b := ⟨_, List.getElem?_eq_getElem (by omega)⟩
    refine Exec.skipS ?_
    refine Exec.blk ?_
    refine Exec.opk 11 ?_
    iterate 2 (refine OpenK.o ?_)
    refine OpenK.o1 (by simp only [go_sem, ha, hb]; (try simp (disch := omega) only [if_pos]); (try simp only [go_sem, ha, hb])<;> rfl) ?_
    refine OpenK.o1 (by simp only [go_sem, ha, hb] <;> rfl) ?_
    iterate 2 (refine OpenK.o ?_)
    refine OpenK.o1 (by simp only [go_sem, ha, hb]; (try simp (disch := omega) only [if_pos]); (try simp only [go_sem, ha, hb])<;> rfl) ?_
    iterate 2 (refine OpenK.o1 (by simp only [go_sem, ha, hb] <;> rfl) ?_)
    refine OpenK.nil (OpenE.fin (by decide +kernel) (by decide +kernel) ?_)
    refine Exec.cnd (by simp only [go_sem, ha, hb] <;> rfl) (fun hb25 => ?_) (fun hb25 => ?_)
    · skip
      have hr : decide (l = m) = false := by rw [decide_eq_false_iff_not]; rintro rfl; rw [ha] at hb; cases hb; simp at hb25
      refine Exec.reg ?_
      refine Run.o ?_
      refine Run.nil ?_
      refine BlkK.ret ?_
      refine ForK.ret ?_
      refine BlkK.ret ?_
      exact Ends.fin [] (rs := [.tmp 4]) rfl (by simp only [go_sem, ha, hb, hr] <;> rfl) (by simp only [go_sem, ha, hb, hr] <;> first | rfl | ((repeat' (first | with_reducible_and_instances rfl | refine st_eq ?_ ?_ ?_ | refine ret_eq ?_ | refine tup_eq ?_ | refine tm_eq ?_ ?_ | refine arr_eq ?_ | refine cells_eq ?_ | refine val_eq ?_ | refine ls_eq ?_ ?_ | refine own_eq ?_ ?_ | refine sl_eq ?_ | refine b_eq ?_ | (refine i_eq ?_; omega))); done))
    have hab : a = b := int_eq hb25
    refine BlkK.nrm ?_
    refine Exec.reg1 ?_
    refine Run.o ?_
    refine Run.o1 (by simp only [go_sem, ha, hb]; (try simp (disch := omega) only [IntWalk.i64_in, IntWalk.u64_in, if_neg, if_pos])<;> rfl) ?_
    refine Run.o ?_
    refine Run.nil ?_
    refine ForK.nxt ?_ ?_ ?_
    · omega
    · exact Ghost.kp [0, 1, 5] [] (by simp only [go_sem, ha, hb]; first | ((repeat' (first | with_reducible_and_instances rfl | refine st_eq ?_ ?_ ?_ | refine ret_eq ?_ | refine tup_eq ?_ | refine tm_eq ?_ ?_ | refine arr_eq ?_ | refine cells_eq ?_ | refine val_eq ?_ | refine ls_eq ?_ ?_ | refine own_eq ?_ ?_ | refine sl_eq ?_ | refine b_eq ?_ | (refine i_eq ?_; omega))); done) | rfl)
    · exact fun j hj => if e : j = k then e ▸ (by rw [ha, hb]; rw [hab]) else hX j (by omega)
  have hr : decide (l = m) = true := by rw [decide_eq_true_iff]; exact List.ext_getElem? fun j => if hj : j < k then hX j hj else by have := ge_of_dec hb14; rw [List.getElem?_eq_none (by omega), List.getElem?_eq_none (by omega)]
  refine Exec.exitS ?_
  refine ForK.ext ?_
  refine BlkK.hit ?_
  refine Exec.reg ?_
  refine Run.o ?_
  refine Run.nil ?_
  exact Ends.fin [] (rs := [.tmp 4]) rfl (by simp only [go_sem, hr] <;> rfl) (by simp only [go_sem, hr] <;> first | rfl | ((repeat' (first | with_reducible_and_instances rfl | refine st_eq ?_ ?_ ?_ | refine ret_eq ?_ | refine tup_eq ?_ | refine tm_eq ?_ ?_ | refine arr_eq ?_ | refine cells_eq ?_ | refine val_eq ?_ | refine ls_eq ?_ ?_ | refine own_eq ?_ ?_ | refine sl_eq ?_ | refine b_eq ?_ | (refine i_eq ?_; omega))); done))

set_option maxRecDepth 20000 in
/-- slices.IndexFunc[[]int,int] -/
theorem c_IndexFunc_Int {g : FuncId} {ds : List D} (p : Int → Bool) (hg : canCall Try.prog g = true) (l : List Int) (hl : l.length ≤ 1000) (hp : ∀ s, s ∈ l → Contract Try.prog g (.int s :: ds.map fun x => .leaf (.d x)) (.bool (p s)) []) : Contract Try.prog 65 [.leaf (.d (.sl 1 (l.map encInt))), .leaf (.d (.fn g ds))] (.int (idxI (l.findIdx? p))) [] := by
  refine con_of follows_mixed Try.func65 rfl (by simp only [List.length_cons, List.length_nil, Try.ntmps65]; omega) (by kernel_rfl) rfl ?_
  refine Exec.reg ?_
  refine Run.o ?_
  refine Run.nil ?_
  refine Exec.assocS ?_
  refine Exec.reg ?_
  iterate 3 (refine Run.o ?_)
  refine Run.nil ?_
  refine Exec.blk ?_
  refine Exec.forA [0, 1, 7, 8] [] (l.length) (fun k => [.slot 8 (.int k)]) (fun k => (l.take k).any p = false) (fun k => by simp only [go_sem] <;> rfl) (by simp only [go_sem] <;> rfl) ?_ (fun k hk hX => ?_)
  · rfl
  refine Exec.reg ?_
  refine Run.o ?_
  refine Run.nil ?_
  refine Exec.cndS (by simp only [go_sem] <;> rfl) (fun hb9 => ?_) (fun hb9 => ?_)
  · skip
    have hlt := lt_of_dec hb9
    obtain ⟨s, hs⟩ := elem_of hb9
    refine Exec.skipS ?_
    refine Exec.blk ?_
    refine Exec.reg ?_
    iterate 2 (refine Run.o ?_)
    refine Run.nil ?_
    refine Exec.reg ?_
    iterate 3 (refine Run.o ?_)
    refine Run.o1 (by simp only [go_sem, hs]; (try simp (disch := omega) only [if_pos]); (try simp only [go_sem, hs])<;> rfl) ?_
    refine Run.o1 (by simp only [go_sem, hs] <;> rfl) ?_
    refine Run.calw (by simp only [go_sem] <;> rfl) (hp s (List.mem_of_getElem? hs)) (by assumption) (by simp only [go_sem, hs] <;> rfl) (by simp only [go_sem, hs] <;> rfl) (by exact ⟨by first | exact WkR.pure rfl | exact WkR.nil _ | exact WkR.int (by omega), wkr_caps _ _ _⟩) (fr0) (by simp only [go_sem, hs] <;> rfl) ?_
    refine Run.nil ?_
    refine Exec.cnd (by simp only [go_sem, hs] <;> rfl) (fun hb16 => ?_) (fun hb16 => ?_)
    · skip
      have hr := find_at hX hs hb16
      refine Exec.reg ?_
      iterate 2 (refine Run.o ?_)
      refine Run.nil ?_
      refine BlkK.ret ?_
      refine ForK.ret ?_
      refine BlkK.ret ?_
      exact Ends.fin [] (rs := [.tmp 4]) rfl (by simp only [go_sem, hs, hr, idxI] <;> rfl) (by simp only [go_sem, hs, hr, idxI] <;> first | rfl | ((repeat' (first | with_reducible_and_instances rfl | refine st_eq ?_ ?_ ?_ | refine ret_eq ?_ | refine tup_eq ?_ | refine tm_eq ?_ ?_ | refine arr_eq ?_ | refine cells_eq ?_ | refine val_eq ?_ | refine ls_eq ?_ ?_ | refine own_eq ?_ ?_ | refine sl_eq ?_ | refine b_eq ?_ | (refine i_eq ?_; omega))); done))
    refine BlkK.nrm ?_
    refine Exec.reg1 ?_
    refine Run.o1 (by simp only [go_sem, hs]; (try simp (disch := omega) only [IntWalk.i64_in, IntWalk.u64_in, if_neg, if_pos])<;> rfl) ?_
    refine Run.o ?_
    refine Run.nil ?_
    refine ForK.nxt ?_ ?_ ?_
    · omega
    · exact Ghost.kp [0, 1, 7, 8] [] (by simp only [go_sem, hs]; first | ((repeat' (first | with_reducible_and_instances rfl | refine st_eq ?_ ?_ ?_ | refine ret_eq ?_ | refine tup_eq ?_ | refine tm_eq ?_ ?_ | refine arr_eq ?_ | refine cells_eq ?_ | refine val_eq ?_ | refine ls_eq ?_ ?_ | refine own_eq ?_ ?_ | refine sl_eq ?_ | refine b_eq ?_ | (refine i_eq ?_; omega))); done) | rfl)
    · exact any_step hX hs hb16
  have hr := find_none hX (ge_of_dec hb9)
  refine Exec.exitS ?_
  refine ForK.ext ?_
  refine BlkK.hit ?_
  refine Exec.reg ?_
  refine Run.o ?_
  refine Run.nil ?_
  exact Ends.fin [] (rs := [.tmp 4]) rfl (by simp only [go_sem, hr, idxI] <;> rfl) (by simp only [go_sem, hr, idxI] <;> first | rfl | ((repeat' (first | with_reducible_and_instances rfl | refine st_eq ?_ ?_ ?_ | refine ret_eq ?_ | refine tup_eq ?_ | refine tm_eq ?_ ?_ | refine arr_eq ?_ | refine cells_eq ?_ | refine val_eq ?_ | refine ls_eq ?_ ?_ | refine own_eq ?_ ?_ | refine sl_eq ?_ | refine b_eq ?_ | (refine i_eq ?_; omega))); done))

set_option maxRecDepth 20000 in
/-- slices.ContainsFunc[[]int,int] -/
theorem c_ContainsFunc_Int {g : FuncId} {ds : List D} (p : Int → Bool) (hg : canCall Try.prog g = true) (l : List Int) (hl : l.length ≤ 1000) (hp : ∀ s, s ∈ l → Contract Try.prog g (.int s :: ds.map fun x => .leaf (.d x)) (.bool (p s)) []) : Contract Try.prog 51 [.leaf (.d (.sl 1 (l.map encInt))), .leaf (.d (.fn g ds))] (.bool (l.any p)) [] := by
  refine con_of follows_mixed Try.func51 rfl (by simp only [List.length_cons, List.length_nil, Try.ntmps51]; omega) (by kernel_rfl) rfl ?_
  refine Exec.reg ?_
  refine Run.o ?_
  refine Run.nil ?_
  refine Exec.reg ?_
  iterate 2 (refine Run.o ?_)
  refine Run.c1 (c_IndexFunc_Int p hg l hl hp) (by simp only [go_sem, idxI_ge, find_any] <;> rfl) (by simp only [go_sem, idxI_ge, find_any] <;> rfl) ?_
  refine Run.o1 (by simp only [go_sem, idxI_ge, find_any] <;> rfl) ?_
  refine Run.o ?_
  refine Run.nil ?_
  exact Ends.fin [] (rs := [.tmp 4]) rfl (by simp only [go_sem, idxI_ge, find_any] <;> rfl) (by simp only [go_sem, idxI_ge, find_any] <;> first | rfl | ((repeat' (first | with_reducible_and_instances rfl | refine st_eq ?_ ?_ ?_ | refine ret_eq ?_ | refine tup_eq ?_ | refine tm_eq ?_ ?_ | refine arr_eq ?_ | refine cells_eq ?_ | refine val_eq ?_ | refine ls_eq ?_ ?_ | refine own_eq ?_ ?_ | refine sl_eq ?_ | refine b_eq ?_ | (refine i_eq ?_; omega))); done))

set_option maxRecDepth 20000 in
/-- slices.IndexFunc[[]meterworks/api.Class,meterworks/api.Class] -/
theorem c_IndexFunc_Cls {g : FuncId} {ds : List D} (p : Cls → Bool) (hg : canCall Try.prog g = true) (l : List Cls) (hl : l.length ≤ 1000) (hp : ∀ s, s ∈ l → Contract Try.prog g (clsV s :: ds.map fun x => .leaf (.d x)) (.bool (p s)) []) : Contract Try.prog 66 [.leaf (.d (.sl 4 (l.map encCls))), .leaf (.d (.fn g ds))] (.int (idxI (l.findIdx? p))) [] := by
  refine con_of follows_mixed Try.func66 rfl (by simp only [List.length_cons, List.length_nil, Try.ntmps66]; omega) (by kernel_rfl) rfl ?_
  refine Exec.reg ?_
  refine Run.o ?_
  refine Run.nil ?_
  refine Exec.assocS ?_
  refine Exec.reg ?_
  iterate 3 (refine Run.o ?_)
  refine Run.nil ?_
  refine Exec.blk ?_
  refine Exec.forA [0, 1, 7, 8] [] (l.length) (fun k => [.slot 8 (.int k)]) (fun k => (l.take k).any p = false) (fun k => by simp only [go_sem] <;> rfl) (by simp only [go_sem] <;> rfl) ?_ (fun k hk hX => ?_)
  · rfl
  refine Exec.reg ?_
  refine Run.o ?_
  refine Run.nil ?_
  refine Exec.cndS (by simp only [go_sem] <;> rfl) (fun hb9 => ?_) (fun hb9 => ?_)
  · skip
    have hlt := lt_of_dec hb9
    obtain ⟨s, hs⟩ := elem_of hb9
    refine Exec.skipS ?_
    refine Exec.blk ?_
    refine Exec.reg ?_
    iterate 2 (refine Run.o ?_)
    refine Run.nil ?_
    refine Exec.reg ?_
    iterate 3 (refine Run.o ?_)
    refine Run.o1 (by simp only [go_sem, hs]; (try simp (disch := omega) only [if_pos]); (try simp only [go_sem, hs])<;> rfl) ?_
    refine Run.o1 (by simp only [go_sem, hs] <;> rfl) ?_
    refine Run.calw (by simp only [go_sem] <;> rfl) (hp s (List.mem_of_getElem? hs)) (by assumption) (by simp only [go_sem, hs] <;> rfl) (by simp only [go_sem, hs] <;> rfl) (by exact ⟨by first | exact WkR.pure rfl | exact WkR.nil _ | exact WkR.int (by omega), wkr_caps _ _ _⟩) (fr0) (by simp only [go_sem, hs] <;> rfl) ?_
    refine Run.nil ?_
    refine Exec.cnd (by simp only [go_sem, hs] <;> rfl) (fun hb16 => ?_) (fun hb16 => ?_)
    · skip
      have hr := find_at hX hs hb16
      refine Exec.reg ?_
      iterate 2 (refine Run.o ?_)
      refine Run.nil ?_
      refine BlkK.ret ?_
      refine ForK.ret ?_
      refine BlkK.ret ?_
      exact Ends.fin [] (rs := [.tmp 4]) rfl (by simp only [go_sem, hs, hr, idxI] <;> rfl) (by simp only [go_sem, hs, hr, idxI] <;> first | rfl | ((repeat' (first | with_reducible_and_instances rfl | refine st_eq ?_ ?_ ?_ | refine ret_eq ?_ | refine tup_eq ?_ | refine tm_eq ?_ ?_ | refine arr_eq ?_ | refine cells_eq ?_ | refine val_eq ?_ | refine ls_eq ?_ ?_ | refine own_eq ?_ ?_ | refine sl_eq ?_ | refine b_eq ?_ | (refine i_eq ?_; omega))); done))
    refine BlkK.nrm ?_
    refine Exec.reg1 ?_
    refine Run.o1 (by simp only [go_sem, hs]; (try simp (disch := omega) only [IntWalk.i64_in, IntWalk.u64_in, if_neg, if_pos])<;> rfl) ?_
    refine Run.o ?_
    refine Run.nil ?_
    refine ForK.nxt ?_ ?_ ?_
    · omega
    · exact Ghost.kp [0, 1, 7, 8] [] (by simp only [go_sem, hs]; first | ((repeat' (first | with_reducible_and_instances rfl | refine st_eq ?_ ?_ ?_ | refine ret_eq ?_ | refine tup_eq ?_ | refine tm_eq ?_ ?_ | refine arr_eq ?_ | refine cells_eq ?_ | refine val_eq ?_ | refine ls_eq ?_ ?_ | refine own_eq ?_ ?_ | refine sl_eq ?_ | refine b_eq ?_ | (refine i_eq ?_; omega))); done) | rfl)
    · exact any_step hX hs hb16
  have hr := find_none hX (ge_of_dec hb9)
  refine Exec.exitS ?_
  refine ForK.ext ?_
  refine BlkK.hit ?_
  refine Exec.reg ?_
  refine Run.o ?_
  refine Run.nil ?_
  exact Ends.fin [] (rs := [.tmp 4]) rfl (by simp only [go_sem, hr, idxI] <;> rfl) (by simp only [go_sem, hr, idxI] <;> first | rfl | ((repeat' (first | with_reducible_and_instances rfl | refine st_eq ?_ ?_ ?_ | refine ret_eq ?_ | refine tup_eq ?_ | refine tm_eq ?_ ?_ | refine arr_eq ?_ | refine cells_eq ?_ | refine val_eq ?_ | refine ls_eq ?_ ?_ | refine own_eq ?_ ?_ | refine sl_eq ?_ | refine b_eq ?_ | (refine i_eq ?_; omega))); done))

set_option maxRecDepth 20000 in
/-- slices.ContainsFunc[[]meterworks/api.Class,meterworks/api.Class] -/
theorem c_ContainsFunc_Cls {g : FuncId} {ds : List D} (p : Cls → Bool) (hg : canCall Try.prog g = true) (l : List Cls) (hl : l.length ≤ 1000) (hp : ∀ s, s ∈ l → Contract Try.prog g (clsV s :: ds.map fun x => .leaf (.d x)) (.bool (p s)) []) : Contract Try.prog 54 [.leaf (.d (.sl 4 (l.map encCls))), .leaf (.d (.fn g ds))] (.bool (l.any p)) [] := by
  refine con_of follows_mixed Try.func54 rfl (by simp only [List.length_cons, List.length_nil, Try.ntmps54]; omega) (by kernel_rfl) rfl ?_
  refine Exec.reg ?_
  refine Run.o ?_
  refine Run.nil ?_
  refine Exec.reg ?_
  iterate 2 (refine Run.o ?_)
  refine Run.c1 (c_IndexFunc_Cls p hg l hl hp) (by simp only [go_sem, idxI_ge, find_any] <;> rfl) (by simp only [go_sem, idxI_ge, find_any] <;> rfl) ?_
  refine Run.o1 (by simp only [go_sem, idxI_ge, find_any] <;> rfl) ?_
  refine Run.o ?_
  refine Run.nil ?_
  exact Ends.fin [] (rs := [.tmp 4]) rfl (by simp only [go_sem, idxI_ge, find_any] <;> rfl) (by simp only [go_sem, idxI_ge, find_any] <;> first | rfl | ((repeat' (first | with_reducible_and_instances rfl | refine st_eq ?_ ?_ ?_ | refine ret_eq ?_ | refine tup_eq ?_ | refine tm_eq ?_ ?_ | refine arr_eq ?_ | refine cells_eq ?_ | refine val_eq ?_ | refine ls_eq ?_ ?_ | refine own_eq ?_ ?_ | refine sl_eq ?_ | refine b_eq ?_ | (refine i_eq ?_; omega))); done))

set_option maxRecDepth 20000 in
/-- slices.IndexFunc[[]meterworks/api.Seal,meterworks/api.Seal] -/
theorem c_IndexFunc_Sl {g : FuncId} {ds : List D} (p : Sl → Bool) (hg : canCall Try.prog g = true) (l : List Sl) (hl : l.length ≤ 1000) (hp : ∀ s, s ∈ l → Contract Try.prog g (slV s :: ds.map fun x => .leaf (.d x)) (.bool (p s)) []) : Contract Try.prog 67 [.leaf (.d (.sl 4 (l.map encSl))), .leaf (.d (.fn g ds))] (.int (idxI (l.findIdx? p))) [] := by
  refine con_of follows_mixed Try.func67 rfl (by simp only [List.length_cons, List.length_nil, Try.ntmps67]; omega) (by kernel_rfl) rfl ?_
  refine Exec.reg ?_
  refine Run.o ?_
  refine Run.nil ?_
  refine Exec.assocS ?_
  refine Exec.reg ?_
  iterate 3 (refine Run.o ?_)
  refine Run.nil ?_
  refine Exec.blk ?_
  refine Exec.forA [0, 1, 7, 8] [] (l.length) (fun k => [.slot 8 (.int k)]) (fun k => (l.take k).any p = false) (fun k => by simp only [go_sem] <;> rfl) (by simp only [go_sem] <;> rfl) ?_ (fun k hk hX => ?_)
  · rfl
  refine Exec.reg ?_
  refine Run.o ?_
  refine Run.nil ?_
  refine Exec.cndS (by simp only [go_sem] <;> rfl) (fun hb9 => ?_) (fun hb9 => ?_)
  · skip
    have hlt := lt_of_dec hb9
    obtain ⟨s, hs⟩ := elem_of hb9
    refine Exec.skipS ?_
    refine Exec.blk ?_
    refine Exec.reg ?_
    iterate 2 (refine Run.o ?_)
    refine Run.nil ?_
    refine Exec.reg ?_
    iterate 3 (refine Run.o ?_)
    refine Run.o1 (by simp only [go_sem, hs]; (try simp (disch := omega) only [if_pos]); (try simp only [go_sem, hs])<;> rfl) ?_
    refine Run.o1 (by simp only [go_sem, hs] <;> rfl) ?_
    refine Run.calw (by simp only [go_sem] <;> rfl) (hp s (List.mem_of_getElem? hs)) (by assumption) (by simp only [go_sem, hs] <;> rfl) (by simp only [go_sem, hs] <;> rfl) (by exact ⟨by first | exact WkR.pure rfl | exact WkR.nil _ | exact WkR.int (by omega), wkr_caps _ _ _⟩) (fr0) (by simp only [go_sem, hs] <;> rfl) ?_
    refine Run.nil ?_
    refine Exec.cnd (by simp only [go_sem, hs] <;> rfl) (fun hb16 => ?_) (fun hb16 => ?_)
    · skip
      have hr := find_at hX hs hb16
      refine Exec.reg ?_
      iterate 2 (refine Run.o ?_)
      refine Run.nil ?_
      refine BlkK.ret ?_
      refine ForK.ret ?_
      refine BlkK.ret ?_
      exact Ends.fin [] (rs := [.tmp 4]) rfl (by simp only [go_sem, hs, hr, idxI] <;> rfl) (by simp only [go_sem, hs, hr, idxI] <;> first | rfl | ((repeat' (first | with_reducible_and_instances rfl | refine st_eq ?_ ?_ ?_ | refine ret_eq ?_ | refine tup_eq ?_ | refine tm_eq ?_ ?_ | refine arr_eq ?_ | refine cells_eq ?_ | refine val_eq ?_ | refine ls_eq ?_ ?_ | refine own_eq ?_ ?_ | refine sl_eq ?_ | refine b_eq ?_ | (refine i_eq ?_; omega))); done))
    refine BlkK.nrm ?_
    refine Exec.reg1 ?_
    refine Run.o1 (by simp only [go_sem, hs]; (try simp (disch := omega) only [IntWalk.i64_in, IntWalk.u64_in, if_neg, if_pos])<;> rfl) ?_
    refine Run.o ?_
    refine Run.nil ?_
    refine ForK.nxt ?_ ?_ ?_
    · omega
    · exact Ghost.kp [0, 1, 7, 8] [] (by simp only [go_sem, hs]; first | ((repeat' (first | with_reducible_and_instances rfl | refine st_eq ?_ ?_ ?_ | refine ret_eq ?_ | refine tup_eq ?_ | refine tm_eq ?_ ?_ | refine arr_eq ?_ | refine cells_eq ?_ | refine val_eq ?_ | refine ls_eq ?_ ?_ | refine own_eq ?_ ?_ | refine sl_eq ?_ | refine b_eq ?_ | (refine i_eq ?_; omega))); done) | rfl)
    · exact any_step hX hs hb16
  have hr := find_none hX (ge_of_dec hb9)
  refine Exec.exitS ?_
  refine ForK.ext ?_
  refine BlkK.hit ?_
  refine Exec.reg ?_
  refine Run.o ?_
  refine Run.nil ?_
  exact Ends.fin [] (rs := [.tmp 4]) rfl (by simp only [go_sem, hr, idxI] <;> rfl) (by simp only [go_sem, hr, idxI] <;> first | rfl | ((repeat' (first | with_reducible_and_instances rfl | refine st_eq ?_ ?_ ?_ | refine ret_eq ?_ | refine tup_eq ?_ | refine tm_eq ?_ ?_ | refine arr_eq ?_ | refine cells_eq ?_ | refine val_eq ?_ | refine ls_eq ?_ ?_ | refine own_eq ?_ ?_ | refine sl_eq ?_ | refine b_eq ?_ | (refine i_eq ?_; omega))); done))

set_option maxRecDepth 20000 in
/-- slices.ContainsFunc[[]meterworks/api.Seal,meterworks/api.Seal] -/
theorem c_ContainsFunc_Sl {g : FuncId} {ds : List D} (p : Sl → Bool) (hg : canCall Try.prog g = true) (l : List Sl) (hl : l.length ≤ 1000) (hp : ∀ s, s ∈ l → Contract Try.prog g (slV s :: ds.map fun x => .leaf (.d x)) (.bool (p s)) []) : Contract Try.prog 55 [.leaf (.d (.sl 4 (l.map encSl))), .leaf (.d (.fn g ds))] (.bool (l.any p)) [] := by
  refine con_of follows_mixed Try.func55 rfl (by simp only [List.length_cons, List.length_nil, Try.ntmps55]; omega) (by kernel_rfl) rfl ?_
  refine Exec.reg ?_
  refine Run.o ?_
  refine Run.nil ?_
  refine Exec.reg ?_
  iterate 2 (refine Run.o ?_)
  refine Run.c1 (c_IndexFunc_Sl p hg l hl hp) (by simp only [go_sem, idxI_ge, find_any] <;> rfl) (by simp only [go_sem, idxI_ge, find_any] <;> rfl) ?_
  refine Run.o1 (by simp only [go_sem, idxI_ge, find_any] <;> rfl) ?_
  refine Run.o ?_
  refine Run.nil ?_
  exact Ends.fin [] (rs := [.tmp 4]) rfl (by simp only [go_sem, idxI_ge, find_any] <;> rfl) (by simp only [go_sem, idxI_ge, find_any] <;> first | rfl | ((repeat' (first | with_reducible_and_instances rfl | refine st_eq ?_ ?_ ?_ | refine ret_eq ?_ | refine tup_eq ?_ | refine tm_eq ?_ ?_ | refine arr_eq ?_ | refine cells_eq ?_ | refine val_eq ?_ | refine ls_eq ?_ ?_ | refine own_eq ?_ ?_ | refine sl_eq ?_ | refine b_eq ?_ | (refine i_eq ?_; omega))); done))

set_option maxRecDepth 20000 in
/-- slices.IndexFunc[[]meterworks/api.Proof,meterworks/api.Proof] -/
theorem c_IndexFunc_Pf {g : FuncId} {ds : List D} (p : Pf → Bool) (hg : canCall Try.prog g = true) (l : List Pf) (hl : l.length ≤ 1000) (hp : ∀ s, s ∈ l → Contract Try.prog g (pfV s :: ds.map fun x => .leaf (.d x)) (.bool (p s)) []) : Contract Try.prog 68 [.leaf (.d (.sl 4 (l.map encPf))), .leaf (.d (.fn g ds))] (.int (idxI (l.findIdx? p))) [] := by
  refine con_of follows_mixed Try.func68 rfl (by simp only [List.length_cons, List.length_nil, Try.ntmps68]; omega) (by kernel_rfl) rfl ?_
  refine Exec.reg ?_
  refine Run.o ?_
  refine Run.nil ?_
  refine Exec.assocS ?_
  refine Exec.reg ?_
  iterate 3 (refine Run.o ?_)
  refine Run.nil ?_
  refine Exec.blk ?_
  refine Exec.forA [0, 1, 7, 8] [] (l.length) (fun k => [.slot 8 (.int k)]) (fun k => (l.take k).any p = false) (fun k => by simp only [go_sem] <;> rfl) (by simp only [go_sem] <;> rfl) ?_ (fun k hk hX => ?_)
  · rfl
  refine Exec.reg ?_
  refine Run.o ?_
  refine Run.nil ?_
  refine Exec.cndS (by simp only [go_sem] <;> rfl) (fun hb9 => ?_) (fun hb9 => ?_)
  · skip
    have hlt := lt_of_dec hb9
    obtain ⟨s, hs⟩ := elem_of hb9
    refine Exec.skipS ?_
    refine Exec.blk ?_
    refine Exec.reg ?_
    iterate 2 (refine Run.o ?_)
    refine Run.nil ?_
    refine Exec.reg ?_
    iterate 3 (refine Run.o ?_)
    refine Run.o1 (by simp only [go_sem, hs]; (try simp (disch := omega) only [if_pos]); (try simp only [go_sem, hs])<;> rfl) ?_
    refine Run.o1 (by simp only [go_sem, hs] <;> rfl) ?_
    refine Run.calw (by simp only [go_sem] <;> rfl) (hp s (List.mem_of_getElem? hs)) (by assumption) (by simp only [go_sem, hs] <;> rfl) (by simp only [go_sem, hs] <;> rfl) (by exact ⟨by first | exact WkR.pure rfl | exact WkR.nil _ | exact WkR.int (by omega), wkr_caps _ _ _⟩) (fr0) (by simp only [go_sem, hs] <;> rfl) ?_
    refine Run.nil ?_
    refine Exec.cnd (by simp only [go_sem, hs] <;> rfl) (fun hb16 => ?_) (fun hb16 => ?_)
    · skip
      have hr := find_at hX hs hb16
      refine Exec.reg ?_
      iterate 2 (refine Run.o ?_)
      refine Run.nil ?_
      refine BlkK.ret ?_
      refine ForK.ret ?_
      refine BlkK.ret ?_
      exact Ends.fin [] (rs := [.tmp 4]) rfl (by simp only [go_sem, hs, hr, idxI] <;> rfl) (by simp only [go_sem, hs, hr, idxI] <;> first | rfl | ((repeat' (first | with_reducible_and_instances rfl | refine st_eq ?_ ?_ ?_ | refine ret_eq ?_ | refine tup_eq ?_ | refine tm_eq ?_ ?_ | refine arr_eq ?_ | refine cells_eq ?_ | refine val_eq ?_ | refine ls_eq ?_ ?_ | refine own_eq ?_ ?_ | refine sl_eq ?_ | refine b_eq ?_ | (refine i_eq ?_; omega))); done))
    refine BlkK.nrm ?_
    refine Exec.reg1 ?_
    refine Run.o1 (by simp only [go_sem, hs]; (try simp (disch := omega) only [IntWalk.i64_in, IntWalk.u64_in, if_neg, if_pos])<;> rfl) ?_
    refine Run.o ?_
    refine Run.nil ?_
    refine ForK.nxt ?_ ?_ ?_
    · omega
    · exact Ghost.kp [0, 1, 7, 8] [] (by simp only [go_sem, hs]; first | ((repeat' (first | with_reducible_and_instances rfl | refine st_eq ?_ ?_ ?_ | refine ret_eq ?_ | refine tup_eq ?_ | refine tm_eq ?_ ?_ | refine arr_eq ?_ | refine cells_eq ?_ | refine val_eq ?_ | refine ls_eq ?_ ?_ | refine own_eq ?_ ?_ | refine sl_eq ?_ | refine b_eq ?_ | (refine i_eq ?_; omega))); done) | rfl)
    · exact any_step hX hs hb16
  have hr := find_none hX (ge_of_dec hb9)
  refine Exec.exitS ?_
  refine ForK.ext ?_
  refine BlkK.hit ?_
  refine Exec.reg ?_
  refine Run.o ?_
  refine Run.nil ?_
  exact Ends.fin [] (rs := [.tmp 4]) rfl (by simp only [go_sem, hr, idxI] <;> rfl) (by simp only [go_sem, hr, idxI] <;> first | rfl | ((repeat' (first | with_reducible_and_instances rfl | refine st_eq ?_ ?_ ?_ | refine ret_eq ?_ | refine tup_eq ?_ | refine tm_eq ?_ ?_ | refine arr_eq ?_ | refine cells_eq ?_ | refine val_eq ?_ | refine ls_eq ?_ ?_ | refine own_eq ?_ ?_ | refine sl_eq ?_ | refine b_eq ?_ | (refine i_eq ?_; omega))); done))

set_option maxRecDepth 20000 in
/-- slices.ContainsFunc[[]meterworks/api.Proof,meterworks/api.Proof] -/
theorem c_ContainsFunc_Pf {g : FuncId} {ds : List D} (p : Pf → Bool) (hg : canCall Try.prog g = true) (l : List Pf) (hl : l.length ≤ 1000) (hp : ∀ s, s ∈ l → Contract Try.prog g (pfV s :: ds.map fun x => .leaf (.d x)) (.bool (p s)) []) : Contract Try.prog 56 [.leaf (.d (.sl 4 (l.map encPf))), .leaf (.d (.fn g ds))] (.bool (l.any p)) [] := by
  refine con_of follows_mixed Try.func56 rfl (by simp only [List.length_cons, List.length_nil, Try.ntmps56]; omega) (by kernel_rfl) rfl ?_
  refine Exec.reg ?_
  refine Run.o ?_
  refine Run.nil ?_
  refine Exec.reg ?_
  iterate 2 (refine Run.o ?_)
  refine Run.c1 (c_IndexFunc_Pf p hg l hl hp) (by simp only [go_sem, idxI_ge, find_any] <;> rfl) (by simp only [go_sem, idxI_ge, find_any] <;> rfl) ?_
  refine Run.o1 (by simp only [go_sem, idxI_ge, find_any] <;> rfl) ?_
  refine Run.o ?_
  refine Run.nil ?_
  exact Ends.fin [] (rs := [.tmp 4]) rfl (by simp only [go_sem, idxI_ge, find_any] <;> rfl) (by simp only [go_sem, idxI_ge, find_any] <;> first | rfl | ((repeat' (first | with_reducible_and_instances rfl | refine st_eq ?_ ?_ ?_ | refine ret_eq ?_ | refine tup_eq ?_ | refine tm_eq ?_ ?_ | refine arr_eq ?_ | refine cells_eq ?_ | refine val_eq ?_ | refine ls_eq ?_ ?_ | refine own_eq ?_ ?_ | refine sl_eq ?_ | refine b_eq ?_ | (refine i_eq ?_; omega))); done))

set_option maxRecDepth 20000 in
/-- slices.IndexFunc[[][2]int,[2]int] -/
theorem c_IndexFunc_Br {g : FuncId} {ds : List D} (p : Br → Bool) (hg : canCall Try.prog g = true) (l : List Br) (hl : l.length ≤ 1000) (hp : ∀ s, s ∈ l → Contract Try.prog g (brV s :: ds.map fun x => .leaf (.d x)) (.bool (p s)) []) : Contract Try.prog 69 [.leaf (.d (.sl 2 (l.map encBr))), .leaf (.d (.fn g ds))] (.int (idxI (l.findIdx? p))) [] := by
  refine con_of follows_mixed Try.func69 rfl (by simp only [List.length_cons, List.length_nil, Try.ntmps69]; omega) (by kernel_rfl) rfl ?_
  refine Exec.reg ?_
  refine Run.o ?_
  refine Run.nil ?_
  refine Exec.assocS ?_
  refine Exec.reg ?_
  iterate 3 (refine Run.o ?_)
  refine Run.nil ?_
  refine Exec.blk ?_
  refine Exec.forA [0, 1, 7, 8] [] (l.length) (fun k => [.slot 8 (.int k)]) (fun k => (l.take k).any p = false) (fun k => by simp only [go_sem] <;> rfl) (by simp only [go_sem] <;> rfl) ?_ (fun k hk hX => ?_)
  · rfl
  refine Exec.reg ?_
  refine Run.o ?_
  refine Run.nil ?_
  refine Exec.cndS (by simp only [go_sem] <;> rfl) (fun hb9 => ?_) (fun hb9 => ?_)
  · skip
    have hlt := lt_of_dec hb9
    obtain ⟨s, hs⟩ := elem_of hb9
    refine Exec.skipS ?_
    refine Exec.blk ?_
    refine Exec.reg ?_
    iterate 2 (refine Run.o ?_)
    refine Run.nil ?_
    refine Exec.reg ?_
    iterate 3 (refine Run.o ?_)
    refine Run.o1 (by simp only [go_sem, hs]; (try simp (disch := omega) only [if_pos]); (try simp only [go_sem, hs])<;> rfl) ?_
    refine Run.o1 (by simp only [go_sem, hs] <;> rfl) ?_
    refine Run.calw (by simp only [go_sem] <;> rfl) (hp s (List.mem_of_getElem? hs)) (by assumption) (by simp only [go_sem, hs] <;> rfl) (by simp only [go_sem, hs] <;> rfl) (by exact ⟨by first | exact WkR.pure rfl | exact WkR.nil _ | exact WkR.int (by omega), wkr_caps _ _ _⟩) (fr0) (by simp only [go_sem, hs] <;> rfl) ?_
    refine Run.nil ?_
    refine Exec.cnd (by simp only [go_sem, hs] <;> rfl) (fun hb16 => ?_) (fun hb16 => ?_)
    · skip
      have hr := find_at hX hs hb16
      refine Exec.reg ?_
      iterate 2 (refine Run.o ?_)
      refine Run.nil ?_
      refine BlkK.ret ?_
      refine ForK.ret ?_
      refine BlkK.ret ?_
      exact Ends.fin [] (rs := [.tmp 4]) rfl (by simp only [go_sem, hs, hr, idxI] <;> rfl) (by simp only [go_sem, hs, hr, idxI] <;> first | rfl | ((repeat' (first | with_reducible_and_instances rfl | refine st_eq ?_ ?_ ?_ | refine ret_eq ?_ | refine tup_eq ?_ | refine tm_eq ?_ ?_ | refine arr_eq ?_ | refine cells_eq ?_ | refine val_eq ?_ | refine ls_eq ?_ ?_ | refine own_eq ?_ ?_ | refine sl_eq ?_ | refine b_eq ?_ | (refine i_eq ?_; omega))); done))
    refine BlkK.nrm ?_
    refine Exec.reg1 ?_
    refine Run.o1 (by simp only [go_sem, hs]; (try simp (disch := omega) only [IntWalk.i64_in, IntWalk.u64_in, if_neg, if_pos])<;> rfl) ?_
    refine Run.o ?_
    refine Run.nil ?_
    refine ForK.nxt ?_ ?_ ?_
    · omega
    · exact Ghost.kp [0, 1, 7, 8] [] (by simp only [go_sem, hs]; first | ((repeat' (first | with_reducible_and_instances rfl | refine st_eq ?_ ?_ ?_ | refine ret_eq ?_ | refine tup_eq ?_ | refine tm_eq ?_ ?_ | refine arr_eq ?_ | refine cells_eq ?_ | refine val_eq ?_ | refine ls_eq ?_ ?_ | refine own_eq ?_ ?_ | refine sl_eq ?_ | refine b_eq ?_ | (refine i_eq ?_; omega))); done) | rfl)
    · exact any_step hX hs hb16
  have hr := find_none hX (ge_of_dec hb9)
  refine Exec.exitS ?_
  refine ForK.ext ?_
  refine BlkK.hit ?_
  refine Exec.reg ?_
  refine Run.o ?_
  refine Run.nil ?_
  exact Ends.fin [] (rs := [.tmp 4]) rfl (by simp only [go_sem, hr, idxI] <;> rfl) (by simp only [go_sem, hr, idxI] <;> first | rfl | ((repeat' (first | with_reducible_and_instances rfl | refine st_eq ?_ ?_ ?_ | refine ret_eq ?_ | refine tup_eq ?_ | refine tm_eq ?_ ?_ | refine arr_eq ?_ | refine cells_eq ?_ | refine val_eq ?_ | refine ls_eq ?_ ?_ | refine own_eq ?_ ?_ | refine sl_eq ?_ | refine b_eq ?_ | (refine i_eq ?_; omega))); done))

set_option maxRecDepth 20000 in
/-- slices.ContainsFunc[[][2]int,[2]int] -/
theorem c_ContainsFunc_Br {g : FuncId} {ds : List D} (p : Br → Bool) (hg : canCall Try.prog g = true) (l : List Br) (hl : l.length ≤ 1000) (hp : ∀ s, s ∈ l → Contract Try.prog g (brV s :: ds.map fun x => .leaf (.d x)) (.bool (p s)) []) : Contract Try.prog 57 [.leaf (.d (.sl 2 (l.map encBr))), .leaf (.d (.fn g ds))] (.bool (l.any p)) [] := by
  refine con_of follows_mixed Try.func57 rfl (by simp only [List.length_cons, List.length_nil, Try.ntmps57]; omega) (by kernel_rfl) rfl ?_
  refine Exec.reg ?_
  refine Run.o ?_
  refine Run.nil ?_
  refine Exec.reg ?_
  iterate 2 (refine Run.o ?_)
  refine Run.c1 (c_IndexFunc_Br p hg l hl hp) (by simp only [go_sem, idxI_ge, find_any] <;> rfl) (by simp only [go_sem, idxI_ge, find_any] <;> rfl) ?_
  refine Run.o1 (by simp only [go_sem, idxI_ge, find_any] <;> rfl) ?_
  refine Run.o ?_
  refine Run.nil ?_
  exact Ends.fin [] (rs := [.tmp 4]) rfl (by simp only [go_sem, idxI_ge, find_any] <;> rfl) (by simp only [go_sem, idxI_ge, find_any] <;> first | rfl | ((repeat' (first | with_reducible_and_instances rfl | refine st_eq ?_ ?_ ?_ | refine ret_eq ?_ | refine tup_eq ?_ | refine tm_eq ?_ ?_ | refine arr_eq ?_ | refine cells_eq ?_ | refine val_eq ?_ | refine ls_eq ?_ ?_ | refine own_eq ?_ ?_ | refine sl_eq ?_ | refine b_eq ?_ | (refine i_eq ?_; omega))); done))

set_option maxRecDepth 20000 in
/-- meterworks/term.isStock_1 -/
theorem c_isStock_1 (c : Cls) : Contract Try.prog 46 [clsV c] (.bool (!clsOK c)) [] := by
  refine con_of follows_mixed Try.func46 rfl (by simp only [List.length_cons, List.length_nil, Try.ntmps46]; omega) (by kernel_rfl) rfl ?_
  refine Exec.reg ?_
  iterate 2 (refine Run.o ?_)
  refine Run.nil ?_
  refine Exec.reg ?_
  refine Run.o ?_
  refine Run.o1 (by simp only [go_sem, clsOK, Bool.not_and] <;> rfl) ?_
  refine Run.c1 (c_term_within _ _ _) (by simp only [go_sem, clsOK, Bool.not_and] <;> rfl) (by simp only [go_sem, clsOK, Bool.not_and] <;> rfl) ?_
  iterate 2 (refine Run.o1 (by simp only [go_sem, clsOK, Bool.not_and] <;> rfl) ?_)
  refine Run.gop (by simp only [go_sem] <;> rfl) (by simp only [go_sem] <;> rfl) (by simp only [go_sem] <;> rfl) ?_
  refine Run.gop (by simp only [go_sem] <;> rfl) (by simp only [go_sem, clsOK, Bool.not_and] <;> rfl) (by simp only [go_sem] <;> rfl) ?_
  refine Run.gcal (by simp only [go_sem] <;> rfl) (c_term_within _ _ _) (by simp only [go_sem]) (by simp only [go_sem, clsOK, Bool.not_and] <;> rfl) (by exact ⟨by first | exact WkR.pure rfl | exact WkR.nil _ | exact WkR.int (by first | omega | (simp; done) | (simp; omega)), by first | exact WkR.pure rfl | exact WkR.nil _ | exact WkR.int (by first | omega | (simp; done) | (simp; omega)), by first | exact WkR.pure rfl | exact WkR.nil _ | exact WkR.int (by first | omega | (simp; done) | (simp; omega)), trivial⟩) (by simp only [go_sem, clsOK, Bool.not_and] <;> rfl) ?_
  refine Run.gop (by simp only [go_sem] <;> rfl) (by simp only [go_sem, clsOK, Bool.not_and] <;> rfl) (by simp only [go_sem] <;> rfl) ?_
  iterate 2 (refine Run.o1 (by simp only [go_sem, clsOK, Bool.not_and] <;> rfl) ?_)
  refine Run.gop (by simp only [go_sem] <;> rfl) (by simp only [go_sem] <;> rfl) (by simp only [go_sem] <;> rfl) ?_
  refine Run.gop (by simp only [go_sem] <;> rfl) (by simp only [go_sem, clsOK, Bool.not_and] <;> rfl) (by simp only [go_sem] <;> rfl) ?_
  refine Run.gcal (by simp only [go_sem] <;> rfl) (c_term_within _ _ _) (by simp only [go_sem]) (by simp only [go_sem, clsOK, Bool.not_and] <;> rfl) (by exact ⟨by first | exact WkR.pure rfl | exact WkR.nil _ | exact WkR.int (by first | omega | (simp; done) | (simp; omega)), by first | exact WkR.pure rfl | exact WkR.nil _ | exact WkR.int (by first | omega | (simp; done) | (simp; omega)), by first | exact WkR.pure rfl | exact WkR.nil _ | exact WkR.int (by first | omega | (simp; done) | (simp; omega)), trivial⟩) (by simp only [go_sem, clsOK, Bool.not_and] <;> rfl) ?_
  refine Run.gop (by simp only [go_sem] <;> rfl) (by simp only [go_sem, clsOK, Bool.not_and] <;> rfl) (by simp only [go_sem] <;> rfl) ?_
  iterate 2 (refine Run.o1 (by simp only [go_sem, clsOK, Bool.not_and] <;> rfl) ?_)
  refine Run.gop (by simp only [go_sem] <;> rfl) (by simp only [go_sem] <;> rfl) (by simp only [go_sem] <;> rfl) ?_
  refine Run.gop (by simp only [go_sem] <;> rfl) (by simp only [go_sem, clsOK, Bool.not_and] <;> rfl) (by simp only [go_sem] <;> rfl) ?_
  refine Run.gcal (by simp only [go_sem] <;> rfl) (c_term_within _ _ _) (by simp only [go_sem]) (by simp only [go_sem, clsOK, Bool.not_and] <;> rfl) (by exact ⟨by first | exact WkR.pure rfl | exact WkR.nil _ | exact WkR.int (by first | omega | (simp; done) | (simp; omega)), by first | exact WkR.pure rfl | exact WkR.nil _ | exact WkR.int (by first | omega | (simp; done) | (simp; omega)), by first | exact WkR.pure rfl | exact WkR.nil _ | exact WkR.int (by first | omega | (simp; done) | (simp; omega)), trivial⟩) (by simp only [go_sem, clsOK, Bool.not_and] <;> rfl) ?_
  refine Run.gop (by simp only [go_sem] <;> rfl) (by simp only [go_sem, clsOK, Bool.not_and] <;> rfl) (by simp only [go_sem] <;> rfl) ?_
  refine Run.o1 (by simp only [go_sem, clsOK, Bool.not_and] <;> rfl) ?_
  refine Run.o ?_
  refine Run.nil ?_
  exact Ends.fin [] (rs := [.tmp 2]) rfl (by simp only [go_sem, clsOK, Bool.not_and] <;> rfl) (by simp only [go_sem, clsOK, Bool.not_and] <;> first | rfl | ((repeat' (first | with_reducible_and_instances rfl | refine st_eq ?_ ?_ ?_ | refine ret_eq ?_ | refine tup_eq ?_ | refine tm_eq ?_ ?_ | refine arr_eq ?_ | refine cells_eq ?_ | refine val_eq ?_ | refine ls_eq ?_ ?_ | refine own_eq ?_ ?_ | refine sl_eq ?_ | refine b_eq ?_ | (refine i_eq ?_; omega))); done))

set_option maxRecDepth 20000 in
/-- meterworks/term.isStock_2 -/
theorem c_isStock_2 (n : Int) (s : Stk) (h : s.cs.length ≤ 100) : Contract Try.prog 47 [.int n, .leaf (.d (.pt (encStk s)))] (.bool (inB n 0 ((s.cs.length : Int) - 1))) [] := by
  refine con_of follows_mixed Try.func47 rfl (by simp only [List.length_cons, List.length_nil, Try.ntmps47]; omega) (by kernel_rfl) rfl ?_
  refine Exec.reg ?_
  refine Run.o ?_
  refine Run.nil ?_
  refine Exec.reg ?_
  iterate 4 (refine Run.o ?_)
  refine Run.o1 (by simp only [go_sem]; (try simp (disch := omega) only [IntWalk.i64_in, IntWalk.u64_in, if_neg, if_pos])<;> rfl) ?_
  refine Run.c1 (c_term_within _ _ _) (by simp only [go_sem] <;> rfl) (by simp only [go_sem] <;> rfl) ?_
  refine Run.o ?_
  refine Run.nil ?_
  exact Ends.fin [] (rs := [.tmp 3]) rfl (by simp only [go_sem] <;> rfl) (by simp only [go_sem] <;> first | rfl | ((repeat' (first | with_reducible_and_instances rfl | refine st_eq ?_ ?_ ?_ | refine ret_eq ?_ | refine tup_eq ?_ | refine tm_eq ?_ ?_ | refine arr_eq ?_ | refine cells_eq ?_ | refine val_eq ?_ | refine ls_eq ?_ ?_ | refine own_eq ?_ ?_ | refine sl_eq ?_ | refine b_eq ?_ | (refine i_eq ?_; omega))); done))

set_option maxRecDepth 20000 in
/-- meterworks/term.isStock_3 -/
theorem c_isStock_3 (r : Sl) (s : Stk) (h : s.cs.length ≤ 100) : Contract Try.prog 48 [slV r, .leaf (.d (.pt [.fn 47 [.pt (encStk s)]]))] (.bool (!slOK s.cs.length r)) [] := by
  refine con_of follows_mixed Try.func48 rfl (by simp only [List.length_cons, List.length_nil, Try.ntmps48]; omega) (by kernel_rfl) rfl ?_
  refine Exec.reg ?_
  iterate 2 (refine Run.o ?_)
  refine Run.nil ?_
  by_cases hg : (!inB r.to 1 1000000 || !inB r.fr 1 r.to) = true
  · skip
    refine Exec.reg ?_
    refine Run.o ?_
    refine Run.o1 (by simp only [go_sem, slOK, Bool.not_and, hg] <;> rfl) ?_
    refine Run.c1 (c_term_isSeal _) (by simp only [go_sem, slOK, Bool.not_and, hg] <;> rfl) (by simp only [go_sem, slOK, Bool.not_and, hg] <;> rfl) ?_
    iterate 2 (refine Run.o1 (by simp only [go_sem, slOK, Bool.not_and, hg] <;> rfl) ?_)
    refine Run.gop (by simp only [go_sem] <;> rfl) (by simp only [go_sem] <;> rfl) (by simp only [go_sem] <;> rfl) ?_
    refine Run.gop (by simp only [go_sem] <;> rfl) (by simp only [go_sem, slOK, Bool.not_and, hg] <;> rfl) (by simp only [go_sem] <;> rfl) ?_
    refine Run.gop (by simp only [go_sem] <;> rfl) (by simp only [go_sem] <;> rfl) (by simp only [go_sem] <;> rfl) ?_
    refine Run.gop (by simp only [go_sem] <;> rfl) (by simp only [go_sem, slOK, Bool.not_and, hg] <;> rfl) (by simp only [go_sem] <;> rfl) ?_
    refine Run.gcal (by simp only [go_sem] <;> rfl) (c_term_within _ _ _) (by simp only [go_sem]) (by simp only [go_sem, slOK, Bool.not_and, hg] <;> rfl) (by exact ⟨by first | exact WkR.pure rfl | exact WkR.nil _ | exact WkR.int (by first | omega | (simp; done) | (simp; omega)), by first | exact WkR.pure rfl | exact WkR.nil _ | exact WkR.int (by first | omega | (simp; done) | (simp; omega)), by first | exact WkR.pure rfl | exact WkR.nil _ | exact WkR.int (by first | omega | (simp; done) | (simp; omega)), trivial⟩) (by simp only [go_sem, slOK, Bool.not_and, hg] <;> rfl) ?_
    refine Run.gop (by simp only [go_sem] <;> rfl) (by simp only [go_sem, slOK, Bool.not_and, hg] <;> rfl) (by simp only [go_sem] <;> rfl) ?_
    iterate 2 (refine Run.o1 (by simp only [go_sem, slOK, Bool.not_and, hg] <;> rfl) ?_)
    iterate 5 (refine Run.s ?_)
    iterate 2 (refine Run.o1 (by simp only [go_sem, slOK, Bool.not_and, hg] <;> rfl) ?_)
    refine Run.gop (by simp only [go_sem] <;> rfl) (by simp only [go_sem] <;> rfl) (by simp only [go_sem] <;> rfl) ?_
    refine Run.gop (by simp only [go_sem] <;> rfl) (by simp only [go_sem, slOK, Bool.not_and, hg] <;> rfl) (by simp only [go_sem] <;> rfl) ?_
    refine Run.gcal (by simp only [go_sem] <;> rfl) (c_term_isDay _) (by simp only [go_sem]) (by simp only [go_sem, slOK, Bool.not_and, hg] <;> rfl) (by exact ⟨by first | exact WkR.pure rfl | exact WkR.nil _ | exact WkR.int (by first | omega | (simp; done) | (simp; omega)), trivial⟩) (by simp only [go_sem, slOK, Bool.not_and, hg] <;> rfl) ?_
    refine Run.gop (by simp only [go_sem] <;> rfl) (by simp only [go_sem, slOK, Bool.not_and, hg] <;> rfl) (by simp only [go_sem] <;> rfl) ?_
    refine Run.o1 (by simp only [go_sem, slOK, Bool.not_and, hg] <;> rfl) ?_
    refine Run.o ?_
    refine Run.nil ?_
    exact Ends.fin [] (rs := [.tmp 3]) rfl (by simp only [go_sem, slOK, Bool.not_and, hg] <;> rfl) (by simp only [go_sem, slOK, Bool.not_and, hg] <;> first | rfl | ((repeat' (first | with_reducible_and_instances rfl | refine st_eq ?_ ?_ ?_ | refine ret_eq ?_ | refine tup_eq ?_ | refine tm_eq ?_ ?_ | refine arr_eq ?_ | refine cells_eq ?_ | refine val_eq ?_ | refine ls_eq ?_ ?_ | refine own_eq ?_ ?_ | refine sl_eq ?_ | refine b_eq ?_ | (refine i_eq ?_; omega))); done))
  have hg : (!inB r.to 1 1000000 || !inB r.fr 1 r.to) = false := by simpa using hg
  refine Exec.reg ?_
  refine Run.o ?_
  refine Run.o1 (by simp only [go_sem, slOK, Bool.not_and, hg] <;> rfl) ?_
  refine Run.c1 (c_term_isSeal _) (by simp only [go_sem, slOK, Bool.not_and, hg] <;> rfl) (by simp only [go_sem, slOK, Bool.not_and, hg] <;> rfl) ?_
  iterate 2 (refine Run.o1 (by simp only [go_sem, slOK, Bool.not_and, hg] <;> rfl) ?_)
  refine Run.gop (by simp only [go_sem] <;> rfl) (by simp only [go_sem] <;> rfl) (by simp only [go_sem] <;> rfl) ?_
  refine Run.gop (by simp only [go_sem] <;> rfl) (by simp only [go_sem, slOK, Bool.not_and, hg] <;> rfl) (by simp only [go_sem] <;> rfl) ?_
  refine Run.gop (by simp only [go_sem] <;> rfl) (by simp only [go_sem] <;> rfl) (by simp only [go_sem] <;> rfl) ?_
  refine Run.gop (by simp only [go_sem] <;> rfl) (by simp only [go_sem, slOK, Bool.not_and, hg] <;> rfl) (by simp only [go_sem] <;> rfl) ?_
  refine Run.gcal (by simp only [go_sem] <;> rfl) (c_term_within _ _ _) (by simp only [go_sem]) (by simp only [go_sem, slOK, Bool.not_and, hg] <;> rfl) (by exact ⟨by first | exact WkR.pure rfl | exact WkR.nil _ | exact WkR.int (by first | omega | (simp; done) | (simp; omega)), by first | exact WkR.pure rfl | exact WkR.nil _ | exact WkR.int (by first | omega | (simp; done) | (simp; omega)), by first | exact WkR.pure rfl | exact WkR.nil _ | exact WkR.int (by first | omega | (simp; done) | (simp; omega)), trivial⟩) (by simp only [go_sem, slOK, Bool.not_and, hg] <;> rfl) ?_
  refine Run.gop (by simp only [go_sem] <;> rfl) (by simp only [go_sem, slOK, Bool.not_and, hg] <;> rfl) (by simp only [go_sem] <;> rfl) ?_
  iterate 2 (refine Run.o1 (by simp only [go_sem, slOK, Bool.not_and, hg] <;> rfl) ?_)
  refine Run.y1 (by simp only [go_sem, slOK, Bool.not_and, hg] <;> rfl) ?_
  refine Run.y1 (by simp only [go_sem] <;> rfl) ?_
  refine Run.y1 (by simp only [go_sem, slOK, Bool.not_and, hg] <;> rfl) ?_
  refine Run.calw (by simp only [go_sem] <;> rfl) (c_isStock_2 r.cl s h) (by simp only [go_sem]) (by simp only [go_sem, slOK, Bool.not_and, hg] <;> rfl) (by simp only [go_sem, slOK, Bool.not_and, hg] <;> rfl) (by exact ⟨by first | exact WkR.pure rfl | exact WkR.nil _ | exact WkR.int (by first | omega | (simp; done) | (simp; omega)), by first | exact WkR.pure rfl | exact WkR.nil _ | exact WkR.int (by first | omega | (simp; done) | (simp; omega)), trivial⟩) (fr0) (by simp only [go_sem, slOK, Bool.not_and, hg] <;> rfl) ?_
  refine Run.y1 (by simp only [go_sem, slOK, Bool.not_and, hg] <;> rfl) ?_
  iterate 2 (refine Run.o1 (by simp only [go_sem, slOK, Bool.not_and, hg] <;> rfl) ?_)
  refine Run.gop (by simp only [go_sem] <;> rfl) (by simp only [go_sem] <;> rfl) (by simp only [go_sem] <;> rfl) ?_
  refine Run.gop (by simp only [go_sem] <;> rfl) (by simp only [go_sem, slOK, Bool.not_and, hg] <;> rfl) (by simp only [go_sem] <;> rfl) ?_
  refine Run.gcal (by simp only [go_sem] <;> rfl) (c_term_isDay _) (by simp only [go_sem]) (by simp only [go_sem, slOK, Bool.not_and, hg] <;> rfl) (by exact ⟨by first | exact WkR.pure rfl | exact WkR.nil _ | exact WkR.int (by first | omega | (simp; done) | (simp; omega)), trivial⟩) (by simp only [go_sem, slOK, Bool.not_and, hg] <;> rfl) ?_
  refine Run.gop (by simp only [go_sem] <;> rfl) (by simp only [go_sem, slOK, Bool.not_and, hg] <;> rfl) (by simp only [go_sem] <;> rfl) ?_
  refine Run.o1 (by simp only [go_sem, slOK, Bool.not_and, hg] <;> rfl) ?_
  refine Run.o ?_
  refine Run.nil ?_
  exact Ends.fin [] (rs := [.tmp 3]) rfl (by simp only [go_sem, slOK, Bool.not_and, hg] <;> rfl) (by simp only [go_sem, slOK, Bool.not_and, hg] <;> first | rfl | ((repeat' (first | with_reducible_and_instances rfl | refine st_eq ?_ ?_ ?_ | refine ret_eq ?_ | refine tup_eq ?_ | refine tm_eq ?_ ?_ | refine arr_eq ?_ | refine cells_eq ?_ | refine val_eq ?_ | refine ls_eq ?_ ?_ | refine own_eq ?_ ?_ | refine sl_eq ?_ | refine b_eq ?_ | (refine i_eq ?_; omega))); done))

set_option maxRecDepth 20000 in
/-- meterworks/term.isStock_4_1 -/
theorem c_isStock_41 (n : Int) : Contract Try.prog 52 [.int n] (.bool (!inB n 1 1000000)) [] := by
  refine con_of follows_mixed Try.func52 rfl (by simp only [List.length_cons, List.length_nil, Try.ntmps52]; omega) (by kernel_rfl) rfl ?_
  refine Exec.reg ?_
  refine Run.o ?_
  refine Run.nil ?_
  refine Exec.reg ?_
  refine Run.o ?_
  refine Run.c1 (c_term_isSeal _) (by simp only [go_sem] <;> rfl) (by simp only [go_sem] <;> rfl) ?_
  iterate 2 (refine Run.o ?_)
  refine Run.nil ?_
  exact Ends.fin [] (rs := [.tmp 2]) rfl (by simp only [go_sem] <;> rfl) (by simp only [go_sem] <;> first | rfl | ((repeat' (first | with_reducible_and_instances rfl | refine st_eq ?_ ?_ ?_ | refine ret_eq ?_ | refine tup_eq ?_ | refine tm_eq ?_ ?_ | refine arr_eq ?_ | refine cells_eq ?_ | refine val_eq ?_ | refine ls_eq ?_ ?_ | refine own_eq ?_ ?_ | refine sl_eq ?_ | refine b_eq ?_ | (refine i_eq ?_; omega))); done))

set_option maxRecDepth 20000 in
/-- meterworks/term.isStock_5 -/
theorem c_isStock_5 (b : Br) : Contract Try.prog 53 [brV b] (.bool (!brOK b)) [] := by
  refine con_of follows_mixed Try.func53 rfl (by simp only [List.length_cons, List.length_nil, Try.ntmps53]; omega) (by kernel_rfl) rfl ?_
  refine Exec.reg ?_
  iterate 2 (refine Run.o ?_)
  refine Run.nil ?_
  refine Exec.reg ?_
  refine Run.o1 (by simp only [go_sem, brOK, Bool.not_and, Int.toNat_zero, Nat.zero_mul, Int.toNat_one, Nat.one_mul]; (try simp (disch := omega) only [if_pos]); (try simp only [go_sem, brOK, Bool.not_and, Int.toNat_zero, Nat.zero_mul, Int.toNat_one, Nat.one_mul])<;> rfl) ?_
  refine Run.o1 (by simp only [go_sem, brOK, Bool.not_and, Int.toNat_zero, Nat.zero_mul, Int.toNat_one, Nat.one_mul] <;> rfl) ?_
  refine Run.c1 (c_term_isSeal _) (by simp only [go_sem, brOK, Bool.not_and, Int.toNat_zero, Nat.zero_mul, Int.toNat_one, Nat.one_mul] <;> rfl) (by simp only [go_sem, brOK, Bool.not_and, Int.toNat_zero, Nat.zero_mul, Int.toNat_one, Nat.one_mul] <;> rfl) ?_
  iterate 2 (refine Run.o1 (by simp only [go_sem, brOK, Bool.not_and, Int.toNat_zero, Nat.zero_mul, Int.toNat_one, Nat.one_mul] <;> rfl) ?_)
  refine Run.gop (by simp only [go_sem] <;> rfl) (by simp only [go_sem, brOK, Bool.not_and, Int.toNat_zero, Nat.zero_mul, Int.toNat_one, Nat.one_mul]; (try simp (disch := omega) only [if_pos]); (try simp only [go_sem, brOK, Bool.not_and, Int.toNat_zero, Nat.zero_mul, Int.toNat_one, Nat.one_mul])<;> rfl) (by simp only [go_sem] <;> rfl) ?_
  refine Run.gop (by simp only [go_sem] <;> rfl) (by simp only [go_sem, brOK, Bool.not_and, Int.toNat_zero, Nat.zero_mul, Int.toNat_one, Nat.one_mul] <;> rfl) (by simp only [go_sem] <;> rfl) ?_
  refine Run.gcal (by simp only [go_sem] <;> rfl) (c_term_isDay _) (by simp only [go_sem]) (by simp only [go_sem, brOK, Bool.not_and, Int.toNat_zero, Nat.zero_mul, Int.toNat_one, Nat.one_mul] <;> rfl) (by exact ⟨by first | exact WkR.pure rfl | exact WkR.nil _ | exact WkR.int (by first | omega | (simp; done) | (simp; omega)), trivial⟩) (by simp only [go_sem, brOK, Bool.not_and, Int.toNat_zero, Nat.zero_mul, Int.toNat_one, Nat.one_mul] <;> rfl) ?_
  refine Run.gop (by simp only [go_sem] <;> rfl) (by simp only [go_sem, brOK, Bool.not_and, Int.toNat_zero, Nat.zero_mul, Int.toNat_one, Nat.one_mul] <;> rfl) (by simp only [go_sem] <;> rfl) ?_
  refine Run.o1 (by simp only [go_sem, brOK, Bool.not_and, Int.toNat_zero, Nat.zero_mul, Int.toNat_one, Nat.one_mul] <;> rfl) ?_
  refine Run.o ?_
  refine Run.nil ?_
  exact Ends.fin [] (rs := [.tmp 2]) rfl (by simp only [go_sem, brOK, Bool.not_and, Int.toNat_zero, Nat.zero_mul, Int.toNat_one, Nat.one_mul] <;> rfl) (by simp only [go_sem, brOK, Bool.not_and, Int.toNat_zero, Nat.zero_mul, Int.toNat_one, Nat.one_mul] <;> first | rfl | ((repeat' (first | with_reducible_and_instances rfl | refine st_eq ?_ ?_ ?_ | refine ret_eq ?_ | refine tup_eq ?_ | refine tm_eq ?_ ?_ | refine arr_eq ?_ | refine cells_eq ?_ | refine val_eq ?_ | refine ls_eq ?_ ?_ | refine own_eq ?_ ?_ | refine sl_eq ?_ | refine b_eq ?_ | (refine i_eq ?_; omega))); done))

end Go.Mw
namespace Go.Mw
open Go.Proofs
open Go.Te
/-- How large a stock is that the statements look at. -/
structure Small (s : Stk) : Prop where
  cs : s.cs.length ≤ 100
  rs : s.rs.length ≤ 100
  ps : s.ps.length ≤ 100
  bs : s.bs.length ≤ 100
  ss : ∀ p ∈ s.ps, p.seals.length ≤ 100
theorem shl_pow {n : Nat} (h : n ≤ 20) : IntKind.i64.wrap (1 * 2 ^ (min n 64)) = 2 ^ n := by
  have h1 : min n 64 = n := by omega
  have hb := pow2_bnd h
  rw [h1, Int.one_mul]
  exact IntWalk.i64_in _ (by omega)
set_option maxRecDepth 20000 in
set_option maxHeartbeats 2000000 in
/-- meterworks/term.isStock_4 -/
theorem c_isStock_4 (p : Pf) (s : Stk) (h : s.cs.length ≤ 100) (hp : p.seals.length ≤ 100) : Contract Try.prog 50 [pfV p, .leaf (.d (.pt [.fn 47 [.pt (encStk s)]]))] (.bool (!pfOK s.cs.length p)) [] := by
  have ef : (inB p.cl 0 ((s.cs.length : Int) - 1) && inB p.day 0 131072 && inB (p.seals.length : Int) 1 20) = pfForm s.cs.length p := rfl
  have ea := any_neg (p := fun x => inB x 1 1000000) p.seals
  refine con_of follows_mixed Try.func50 rfl (by simp only [List.length_cons, List.length_nil, Try.ntmps50]; omega) (by kernel_rfl) rfl ?_
  refine Exec.reg ?_
  iterate 2 (refine Run.o ?_)
  refine Run.nil ?_
  refine Exec.reg ?_
  refine Run.o1 (by simp only [go_sem, ef, ea] <;> rfl) ?_
  refine Run.o ?_
  refine Run.o1 (by simp only [go_sem, ef, ea] <;> rfl) ?_
  refine Run.calw (by simp only [go_sem] <;> rfl) (c_isStock_2 p.cl s h) (by simp only [go_sem]) (by simp only [go_sem, ef, ea] <;> rfl) (by simp only [go_sem, ef, ea] <;> rfl) (by exact ⟨by first | exact WkR.pure rfl | exact WkR.nil _ | exact WkR.int (by first | omega | (simp; done) | (simp; omega)), by first | exact WkR.pure rfl | exact WkR.nil _ | exact WkR.int (by first | omega | (simp; done) | (simp; omega)), trivial⟩) (fr0) (by simp only [go_sem, ef, ea] <;> rfl) ?_
  refine Run.o1 (by simp only [go_sem, ef, ea] <;> rfl) ?_
  refine Run.gop (by simp only [go_sem] <;> rfl) (by simp only [go_sem] <;> rfl) (by simp only [go_sem] <;> rfl) ?_
  refine Run.gop (by simp only [go_sem] <;> rfl) (by simp only [go_sem, ef, ea] <;> rfl) (by simp only [go_sem] <;> rfl) ?_
  refine Run.gcal (by simp only [go_sem] <;> rfl) (c_term_isDay _) (by simp only [go_sem]) (by simp only [go_sem, ef, ea] <;> rfl) (by exact ⟨by first | exact WkR.pure rfl | exact WkR.nil _ | exact WkR.int (by first | omega | (simp; done) | (simp; omega)), trivial⟩) (by simp only [go_sem, ef, ea] <;> rfl) ?_
  iterate 2 (refine Run.o1 (by simp only [go_sem, ef, ea] <;> rfl) ?_)
  refine Run.gop (by simp only [go_sem] <;> rfl) (by simp only [go_sem] <;> rfl) (by simp only [go_sem] <;> rfl) ?_
  iterate 2 (refine Run.gop (by simp only [go_sem] <;> rfl) (by simp only [go_sem, ef, ea] <;> rfl) (by simp only [go_sem] <;> rfl) ?_)
  refine Run.gcal (by simp only [go_sem] <;> rfl) (c_term_within _ _ _) (by simp only [go_sem]) (by simp only [go_sem, ef, ea] <;> rfl) (by exact ⟨by first | exact WkR.pure rfl | exact WkR.nil _ | exact WkR.int (by first | omega | (simp; done) | (simp; omega)), by first | exact WkR.pure rfl | exact WkR.nil _ | exact WkR.int (by first | omega | (simp; done) | (simp; omega)), by first | exact WkR.pure rfl | exact WkR.nil _ | exact WkR.int (by first | omega | (simp; done) | (simp; omega)), trivial⟩) (by simp only [go_sem, ef, ea] <;> rfl) ?_
  refine Run.o1 (by simp only [go_sem, ef, ea] <;> rfl) ?_
  refine Run.o ?_
  refine Run.nil ?_
  by_cases hf : pfForm s.cs.length p = true
  · skip
    have hl : p.seals.length ≤ 20 := by
      unfold pfForm at hf
      simp only [Bool.and_eq_true, inB_iff] at hf
      omega
    have hs := shl_pow hl
    have hpb := pow2_bnd hl
    have er : pfOK s.cs.length p = (inB p.failed 0 (2 ^ p.seals.length - 1) && p.seals.all fun x => inB x 1 1000000) := by unfold pfOK; rw [hf, Bool.true_and]
    refine Exec.opk 21 ?_
    refine OpenK.o ?_
    iterate 2 (refine OpenK.o1 (by simp only [go_sem, ef, ea, hf, hs, er, Bool.not_and] <;> rfl) ?_)
    refine OpenK.y1 (by simp only [go_sem] <;> rfl) ?_
    refine OpenK.y1 (by simp only [go_sem, ef, ea, hf, hs, er, Bool.not_and] <;> rfl) ?_
    refine OpenK.y1 (by simp only [go_sem] <;> rfl) ?_
    iterate 3 (refine OpenK.y1 (by simp only [go_sem, ef, ea, hf, hs, er, Bool.not_and] <;> rfl) ?_)
    refine OpenK.y1 (by simp only [go_sem, ef, ea, hf, hs, er, Bool.not_and]; (try simp (disch := omega) only [IntWalk.i64_in, IntWalk.u64_in, if_neg, if_pos])<;> rfl) ?_
    refine OpenK.calw (by simp only [go_sem] <;> rfl) (c_term_within _ _ _) (by simp only [go_sem]) (by simp only [go_sem, ef, ea, hf, hs, er, Bool.not_and] <;> rfl) (by simp only [go_sem, ef, ea, hf, hs, er, Bool.not_and] <;> rfl) (by exact ⟨by first | exact WkR.pure rfl | exact WkR.nil _ | exact WkR.int (by first | omega | (simp; done) | (simp; omega)), by first | exact WkR.pure rfl | exact WkR.nil _ | exact WkR.int (by first | omega | (simp; done) | (simp; omega)), by first | exact WkR.pure rfl | exact WkR.nil _ | exact WkR.int (by first | omega | (simp; done) | (simp; omega)), trivial⟩) (fr0) (by simp only [go_sem, ef, ea, hf, hs, er, Bool.not_and] <;> rfl) (by simp only [go_sem] <;> rfl) (by simp only [go_sem] <;> rfl) ?_
    refine OpenK.y1 (by simp only [go_sem, ef, ea, hf, hs, er, Bool.not_and] <;> rfl) ?_
    iterate 2 (refine OpenK.o1 (by simp only [go_sem, ef, ea, hf, hs, er, Bool.not_and] <;> rfl) ?_)
    refine OpenK.gop (by simp only [go_sem] <;> rfl) (by simp only [go_sem] <;> rfl) (by simp only [go_sem] <;> rfl) ?_
    refine OpenK.gop (by simp only [go_sem] <;> rfl) (by simp only [go_sem, ef, ea, hf, hs, er, Bool.not_and] <;> rfl) (by simp only [go_sem] <;> rfl) ?_
    refine OpenK.gcal (by simp only [go_sem] <;> rfl) (c_ContainsFunc_Int (fun x => !inB x 1 1000000) (ds := []) (by simp only [go_sem]) p.seals (by omega) (fun n _ => c_isStock_41 n)) (by simp only [go_sem]) (by simp only [go_sem, ef, ea, hf, hs, er, Bool.not_and] <;> rfl) (by exact ⟨by first | exact WkR.pure rfl | exact WkR.nil _ | exact WkR.int (by first | omega | (simp; done) | (simp; omega)), by first | exact WkR.pure rfl | exact WkR.nil _ | exact WkR.int (by first | omega | (simp; done) | (simp; omega)), trivial⟩) (by simp only [go_sem, ef, ea, hf, hs, er, Bool.not_and] <;> rfl) (by simp only [go_sem] <;> rfl) ?_
    refine OpenK.o1 (by simp only [go_sem, ef, ea, hf, hs, er, Bool.not_and] <;> rfl) ?_
    refine OpenK.o ?_
    refine OpenK.nil (OpenE.finT (by kernel_rfl) (by kernel_rfl) (by kernel_rfl) ?_)
    exact Ends.fin [] (rs := [.tmp 3]) rfl (by simp only [go_sem, ef, ea, hf, hs, er, Bool.not_and] <;> rfl) (by simp only [go_sem, ef, ea, hf, hs, er, Bool.not_and] <;> first | rfl | ((repeat' (first | with_reducible_and_instances rfl | refine st_eq ?_ ?_ ?_ | refine ret_eq ?_ | refine tup_eq ?_ | refine tm_eq ?_ ?_ | refine arr_eq ?_ | refine cells_eq ?_ | refine val_eq ?_ | refine ls_eq ?_ ?_ | refine own_eq ?_ ?_ | refine sl_eq ?_ | refine b_eq ?_ | (refine i_eq ?_; omega))); done))
  have hf : pfForm s.cs.length p = false := by simpa using hf
  have er : pfOK s.cs.length p = false := by unfold pfOK; rw [hf]; rfl
  refine Exec.opk 21 ?_
  refine OpenK.o ?_
  iterate 2 (refine OpenK.o1 (by simp only [go_sem, ef, ea, hf, er] <;> rfl) ?_)
  iterate 9 (refine OpenK.s ?_)
  iterate 2 (refine OpenK.o1 (by simp only [go_sem, ef, ea, hf, er] <;> rfl) ?_)
  iterate 3 (refine OpenK.s ?_)
  refine OpenK.o1 (by simp only [go_sem, ef, ea, hf, er] <;> rfl) ?_
  refine OpenK.o ?_
  refine OpenK.nil (OpenE.finT (by kernel_rfl) (by kernel_rfl) (by kernel_rfl) ?_)
  exact Ends.fin [] (rs := [.tmp 3]) rfl (by simp only [go_sem, ef, ea, hf, er] <;> rfl) (by simp only [go_sem, ef, ea, hf, er] <;> first | rfl | ((repeat' (first | with_reducible_and_instances rfl | refine st_eq ?_ ?_ ?_ | refine ret_eq ?_ | refine tup_eq ?_ | refine tm_eq ?_ ?_ | refine arr_eq ?_ | refine cells_eq ?_ | refine val_eq ?_ | refine ls_eq ?_ ?_ | refine own_eq ?_ ?_ | refine sl_eq ?_ | refine b_eq ?_ | (refine i_eq ?_; omega))); done))

set_option maxRecDepth 20000 in
set_option maxHeartbeats 4000000 in
/-- meterworks/term.isStock -/
theorem c_term_isStock (s : Stk) (h : Small s) : Contract Try.prog 36 [stkV s] (.bool (stockB s)) [] := by
  have hcs := h.cs
  have hrs := h.rs
  have hps := h.ps
  have hbs := h.bs
  have e1 := any_neg (p := clsOK) s.cs
  have e2 := any_neg (p := slOK s.cs.length) s.rs
  have e3 := any_neg (p := pfOK s.cs.length) s.ps
  have e4 := any_neg (p := brOK) s.bs
  have es : (decide ((s.cs.length : Int) ≤ 5) && decide ((s.rs.length : Int) ≤ 24) && decide ((s.ps.length : Int) ≤ 12) && decide ((s.bs.length : Int) ≤ 24)) = sizesB s := by
    have k : ∀ (n m : Nat), decide ((n : Int) ≤ (m : Int)) = decide (n ≤ m) := fun n m => by congr 1; simp
    unfold sizesB
    rw [← k, ← k, ← k, ← k]; rfl
  have er : stockB s = (sizesB s && s.cs.all clsOK && s.rs.all (slOK s.cs.length) && s.ps.all (pfOK s.cs.length) && s.bs.all brOK) := rfl
  refine con_of follows_mixed Try.func36 rfl (by simp only [List.length_cons, List.length_nil, Try.ntmps36]; omega) (by kernel_rfl) rfl ?_
  refine Exec.reg ?_
  iterate 2 (refine Run.o ?_)
  refine Run.nil ?_
  refine Exec.reg ?_
  refine Run.o ?_
  refine Run.nil ?_
  refine Exec.reg ?_
  refine Run.frz 1 (by simp only [go_sem] <;> rfl) ?_
  refine Run.o1 (by simp only [go_sem, e1, e2, e3, e4, es, er, Bool.not_not] <;> rfl) ?_
  iterate 2 (refine Run.o ?_)
  refine Run.nil ?_
  refine Exec.reg ?_
  refine Run.frz 4 (by simp only [go_sem] <;> rfl) ?_
  refine Run.o1 (by simp only [go_sem, e1, e2, e3, e4, es, er, Bool.not_not] <;> rfl) ?_
  refine Run.o ?_
  refine Run.nil ?_
  refine Exec.reg ?_
  refine Run.o1 (by simp only [go_sem, e1, e2, e3, e4, es, er, Bool.not_not] <;> rfl) ?_
  refine Run.o ?_
  refine Run.nil ?_
  refine Exec.reg ?_
  refine Run.o ?_
  refine Run.nil ?_
  refine Exec.reg ?_
  refine Run.o ?_
  iterate 4 (refine Run.o1 (by simp only [go_sem, e1, e2, e3, e4, es, er, Bool.not_not] <;> rfl) ?_)
  refine Run.gop (by simp only [go_sem] <;> rfl) (by simp only [go_sem] <;> rfl) (by simp only [go_sem] <;> rfl) ?_
  iterate 3 (refine Run.gop (by simp only [go_sem] <;> rfl) (by simp only [go_sem, e1, e2, e3, e4, es, er, Bool.not_not] <;> rfl) (by simp only [go_sem] <;> rfl) ?_)
  iterate 2 (refine Run.o1 (by simp only [go_sem, e1, e2, e3, e4, es, er, Bool.not_not] <;> rfl) ?_)
  refine Run.gop (by simp only [go_sem] <;> rfl) (by simp only [go_sem] <;> rfl) (by simp only [go_sem] <;> rfl) ?_
  iterate 3 (refine Run.gop (by simp only [go_sem] <;> rfl) (by simp only [go_sem, e1, e2, e3, e4, es, er, Bool.not_not] <;> rfl) (by simp only [go_sem] <;> rfl) ?_)
  iterate 2 (refine Run.o1 (by simp only [go_sem, e1, e2, e3, e4, es, er, Bool.not_not] <;> rfl) ?_)
  refine Run.gop (by simp only [go_sem] <;> rfl) (by simp only [go_sem] <;> rfl) (by simp only [go_sem] <;> rfl) ?_
  iterate 3 (refine Run.gop (by simp only [go_sem] <;> rfl) (by simp only [go_sem, e1, e2, e3, e4, es, er, Bool.not_not] <;> rfl) (by simp only [go_sem] <;> rfl) ?_)
  refine Run.o1 (by simp only [go_sem, e1, e2, e3, e4, es, er, Bool.not_not] <;> rfl) ?_
  refine Run.o ?_
  refine Run.nil ?_
  refine Exec.reg ?_
  refine Run.o ?_
  refine Run.o1 (by simp only [go_sem, e1, e2, e3, e4, es, er, Bool.not_not] <;> rfl) ?_
  refine Run.gop (by simp only [go_sem] <;> rfl) (by simp only [go_sem] <;> rfl) (by simp only [go_sem] <;> rfl) ?_
  refine Run.gop (by simp only [go_sem] <;> rfl) (by simp only [go_sem, e1, e2, e3, e4, es, er, Bool.not_not] <;> rfl) (by simp only [go_sem] <;> rfl) ?_
  refine Run.gop (by simp only [go_sem] <;> rfl) (by simp only [go_sem] <;> rfl) (by simp only [go_sem] <;> rfl) ?_
  refine Run.gcal (by simp only [go_sem] <;> rfl) (c_ContainsFunc_Cls (fun s => !clsOK s) (ds := []) (by simp only [go_sem]) s.cs (by omega) (fun c _ => c_isStock_1 c)) (by simp only [go_sem]) (by simp only [go_sem, e1, e2, e3, e4, es, er, Bool.not_not] <;> rfl) (by exact ⟨by first | exact WkR.pure rfl | exact WkR.nil _ | exact WkR.int (by first | omega | (simp; done) | (simp; omega)), by first | exact WkR.pure rfl | exact WkR.nil _ | exact WkR.int (by first | omega | (simp; done) | (simp; omega)), trivial⟩) (by simp only [go_sem, e1, e2, e3, e4, es, er, Bool.not_not] <;> rfl) ?_
  refine Run.gop (by simp only [go_sem] <;> rfl) (by simp only [go_sem, e1, e2, e3, e4, es, er, Bool.not_not] <;> rfl) (by simp only [go_sem] <;> rfl) ?_
  iterate 2 (refine Run.o1 (by simp only [go_sem, e1, e2, e3, e4, es, er, Bool.not_not] <;> rfl) ?_)
  refine Run.gop (by simp only [go_sem] <;> rfl) (by simp only [go_sem] <;> rfl) (by simp only [go_sem] <;> rfl) ?_
  refine Run.gop (by simp only [go_sem] <;> rfl) (by simp only [go_sem, e1, e2, e3, e4, es, er, Bool.not_not] <;> rfl) (by simp only [go_sem] <;> rfl) ?_
  refine Run.gop (by simp only [go_sem] <;> rfl) (by simp only [go_sem] <;> rfl) (by simp only [go_sem] <;> rfl) ?_
  refine Run.gcal (by simp only [go_sem] <;> rfl) (c_ContainsFunc_Sl (fun r => !slOK s.cs.length r) (ds := [.pt [.fn 47 [.pt (encStk s)]]]) (by simp only [go_sem]) s.rs (by omega) (fun r _ => c_isStock_3 r s hcs)) (by simp only [go_sem]) (by simp only [go_sem, e1, e2, e3, e4, es, er, Bool.not_not] <;> rfl) (by exact ⟨by first | exact WkR.pure rfl | exact WkR.nil _ | exact WkR.int (by first | omega | (simp; done) | (simp; omega)), by first | exact WkR.pure rfl | exact WkR.nil _ | exact WkR.int (by first | omega | (simp; done) | (simp; omega)), trivial⟩) (by simp only [go_sem, e1, e2, e3, e4, es, er, Bool.not_not] <;> rfl) ?_
  refine Run.gop (by simp only [go_sem] <;> rfl) (by simp only [go_sem, e1, e2, e3, e4, es, er, Bool.not_not] <;> rfl) (by simp only [go_sem] <;> rfl) ?_
  iterate 2 (refine Run.o1 (by simp only [go_sem, e1, e2, e3, e4, es, er, Bool.not_not] <;> rfl) ?_)
  refine Run.gop (by simp only [go_sem] <;> rfl) (by simp only [go_sem] <;> rfl) (by simp only [go_sem] <;> rfl) ?_
  refine Run.gop (by simp only [go_sem] <;> rfl) (by simp only [go_sem, e1, e2, e3, e4, es, er, Bool.not_not] <;> rfl) (by simp only [go_sem] <;> rfl) ?_
  refine Run.gop (by simp only [go_sem] <;> rfl) (by simp only [go_sem] <;> rfl) (by simp only [go_sem] <;> rfl) ?_
  refine Run.gcal (by simp only [go_sem] <;> rfl) (c_ContainsFunc_Pf (fun p => !pfOK s.cs.length p) (ds := [.pt [.fn 47 [.pt (encStk s)]]]) (by simp only [go_sem]) s.ps (by omega) (fun p hp => c_isStock_4 p s hcs (h.ss p hp))) (by simp only [go_sem]) (by simp only [go_sem, e1, e2, e3, e4, es, er, Bool.not_not] <;> rfl) (by exact ⟨by first | exact WkR.pure rfl | exact WkR.nil _ | exact WkR.int (by first | omega | (simp; done) | (simp; omega)), by first | exact WkR.pure rfl | exact WkR.nil _ | exact WkR.int (by first | omega | (simp; done) | (simp; omega)), trivial⟩) (by simp only [go_sem, e1, e2, e3, e4, es, er, Bool.not_not] <;> rfl) ?_
  refine Run.gop (by simp only [go_sem] <;> rfl) (by simp only [go_sem, e1, e2, e3, e4, es, er, Bool.not_not] <;> rfl) (by simp only [go_sem] <;> rfl) ?_
  iterate 2 (refine Run.o1 (by simp only [go_sem, e1, e2, e3, e4, es, er, Bool.not_not] <;> rfl) ?_)
  refine Run.gop (by simp only [go_sem] <;> rfl) (by simp only [go_sem] <;> rfl) (by simp only [go_sem] <;> rfl) ?_
  refine Run.gop (by simp only [go_sem] <;> rfl) (by simp only [go_sem, e1, e2, e3, e4, es, er, Bool.not_not] <;> rfl) (by simp only [go_sem] <;> rfl) ?_
  refine Run.gop (by simp only [go_sem] <;> rfl) (by simp only [go_sem] <;> rfl) (by simp only [go_sem] <;> rfl) ?_
  refine Run.gcal (by simp only [go_sem] <;> rfl) (c_ContainsFunc_Br (fun b => !brOK b) (ds := []) (by simp only [go_sem]) s.bs (by omega) (fun b _ => c_isStock_5 b)) (by simp only [go_sem]) (by simp only [go_sem, e1, e2, e3, e4, es, er, Bool.not_not] <;> rfl) (by exact ⟨by first | exact WkR.pure rfl | exact WkR.nil _ | exact WkR.int (by first | omega | (simp; done) | (simp; omega)), by first | exact WkR.pure rfl | exact WkR.nil _ | exact WkR.int (by first | omega | (simp; done) | (simp; omega)), trivial⟩) (by simp only [go_sem, e1, e2, e3, e4, es, er, Bool.not_not] <;> rfl) ?_
  refine Run.gop (by simp only [go_sem] <;> rfl) (by simp only [go_sem, e1, e2, e3, e4, es, er, Bool.not_not] <;> rfl) (by simp only [go_sem] <;> rfl) ?_
  refine Run.o1 (by simp only [go_sem, e1, e2, e3, e4, es, er, Bool.not_not] <;> rfl) ?_
  refine Run.o ?_
  refine Run.nil ?_
  exact Ends.fin [] (rs := [.tmp 2]) rfl (by simp only [go_sem, e1, e2, e3, e4, es, er, Bool.not_not] <;> rfl) (by simp only [go_sem, e1, e2, e3, e4, es, er, Bool.not_not] <;> first | rfl | ((repeat' (first | with_reducible_and_instances rfl | refine st_eq ?_ ?_ ?_ | refine ret_eq ?_ | refine tup_eq ?_ | refine tm_eq ?_ ?_ | refine arr_eq ?_ | refine cells_eq ?_ | refine val_eq ?_ | refine ls_eq ?_ ?_ | refine own_eq ?_ ?_ | refine sl_eq ?_ | refine b_eq ?_ | (refine i_eq ?_; omega))); done))

set_option maxRecDepth 40000 in
set_option maxHeartbeats 8000000 in
/-- meterworks/meterworksref07.Stock -/
theorem c_meterworksref07_Stock (s : Stk) (h : Small s) : Contract Try.prog 15 [stkV s] (.bool (stockB s)) [] := by
  have hcs := h.cs
  have hrs := h.rs
  have hps := h.ps
  have hbs := h.bs
  have es : (!(decide ((s.cs.length : Int) > 5) || decide ((s.rs.length : Int) > 24) || decide ((s.ps.length : Int) > 12) || decide ((s.bs.length : Int) > 24))) = sizesB s := by
    have k : ∀ (n m : Nat), (!decide ((n : Int) > (m : Int))) = decide (n ≤ m) := fun n m => by rw [← decide_not]; congr 1; simp
    unfold sizesB
    rw [← k, ← k, ← k, ← k, Bool.not_or, Bool.not_or, Bool.not_or]; rfl
  have e1 : ∀ c : Cls, (!inB c.term 1 10000 || !inB c.more 1 10000 || !inB c.times 0 4 || !inB c.fail 0 20) = !clsOK c := fun c => by simp [clsOK, Bool.not_and]
  have e2 : ∀ r : Sl, (!inB r.to 1 1000000 || !inB r.fr 1 r.to || !inB r.cl 0 ((s.cs.length : Int) - 1) || !inB r.day 0 131072) = !slOK s.cs.length r := fun r => by simp [slOK, Bool.not_and]
  have e3 : ∀ p : Pf, (!inB p.cl 0 ((s.cs.length : Int) - 1) || !inB p.day 0 131072 || !inB (p.seals.length : Int) 1 20) = !pfForm s.cs.length p := fun p => by simp [pfForm, Bool.not_and]
  have e4 : ∀ b : Br, (!inB b.no 1 1000000 || !inB b.day 0 131072) = !brOK b := fun b => by simp [brOK, Bool.not_and]
  refine con_of follows_mixed Try.func15 rfl (by simp only [List.length_cons, List.length_nil, Try.ntmps15]; omega) (by kernel_rfl) rfl ?_
  refine Exec.reg ?_
  iterate 2 (refine Run.o ?_)
  refine Run.nil ?_
  refine Exec.assocS ?_
  refine Exec.reg ?_
  refine Run.o ?_
  iterate 4 (refine Run.o1 (by simp only [go_sem, e1, e2, e3, e4] <;> rfl) ?_)
  refine Run.gop (by simp only [go_sem] <;> rfl) (by simp only [go_sem] <;> rfl) (by simp only [go_sem] <;> rfl) ?_
  iterate 3 (refine Run.gop (by simp only [go_sem] <;> rfl) (by simp only [go_sem, e1, e2, e3, e4] <;> rfl) (by simp only [go_sem] <;> rfl) ?_)
  iterate 2 (refine Run.o1 (by simp only [go_sem, e1, e2, e3, e4] <;> rfl) ?_)
  refine Run.gop (by simp only [go_sem] <;> rfl) (by simp only [go_sem] <;> rfl) (by simp only [go_sem] <;> rfl) ?_
  iterate 3 (refine Run.gop (by simp only [go_sem] <;> rfl) (by simp only [go_sem, e1, e2, e3, e4] <;> rfl) (by simp only [go_sem] <;> rfl) ?_)
  iterate 2 (refine Run.o1 (by simp only [go_sem, e1, e2, e3, e4] <;> rfl) ?_)
  refine Run.gop (by simp only [go_sem] <;> rfl) (by simp only [go_sem] <;> rfl) (by simp only [go_sem] <;> rfl) ?_
  iterate 3 (refine Run.gop (by simp only [go_sem] <;> rfl) (by simp only [go_sem, e1, e2, e3, e4] <;> rfl) (by simp only [go_sem] <;> rfl) ?_)
  refine Run.o1 (by simp only [go_sem, e1, e2, e3, e4] <;> rfl) ?_
  refine Run.nil ?_
  refine Exec.cndS (by simp only [go_sem, e1, e2, e3, e4] <;> rfl) (fun hb32 => ?_) (fun hb32 => ?_)
  · skip
    have hsz : sizesB s = false := by rw [← es, hb32]; rfl
    have hr : stockB s = false := by unfold stockB; rw [hsz]; rfl
    refine Exec.assocS ?_
    refine Exec.reg ?_
    refine Run.o ?_
    refine Run.nil ?_
    refine Exec.retS ?_
    exact Ends.fin [] (rs := [.tmp 2]) rfl (by simp only [go_sem, e1, e2, e3, e4, hr] <;> rfl) (by simp only [go_sem, e1, e2, e3, e4, hr] <;> first | rfl | ((repeat' (first | with_reducible_and_instances rfl | refine st_eq ?_ ?_ ?_ | refine ret_eq ?_ | refine tup_eq ?_ | refine tm_eq ?_ ?_ | refine arr_eq ?_ | refine cells_eq ?_ | refine val_eq ?_ | refine ls_eq ?_ ?_ | refine own_eq ?_ ?_ | refine sl_eq ?_ | refine b_eq ?_ | (refine i_eq ?_; omega))); done))
  have hsz : sizesB s = true := by rw [← es, hb32]; rfl
  refine Exec.skipS ?_
  refine Exec.assocS ?_
  refine Exec.reg ?_
  refine Run.o ?_
  refine Run.nil ?_
  refine Exec.blk ?_
  refine Exec.forA [1, 3] [1] (s.cs.length) (fun k => [.slot 3 (.int k)]) (fun k => (s.cs.take k).all clsOK = true) (fun k => by simp only [go_sem] <;> rfl) (by simp only [go_sem, e1, e2, e3, e4] <;> rfl) ?_ (fun k hk hX => ?_)
  · rfl
  refine Exec.assocS ?_
  refine Exec.reg ?_
  iterate 2 (refine Run.o ?_)
  iterate 3 (refine Run.o1 (by simp only [go_sem, e1, e2, e3, e4] <;> rfl) ?_)
  refine Run.nil ?_
  refine Exec.cndS (by simp only [go_sem, e1, e2, e3, e4] <;> rfl) (fun hb37 => ?_) (fun hb37 => ?_)
  · skip
    have hlt := lt_of_dec hb37
    obtain ⟨r, hsr⟩ : ∃ x, (s.cs)[k]? = some x := ⟨_, List.getElem?_eq_getElem hlt⟩
    refine Exec.skipS ?_
    refine Exec.blk ?_
    refine Exec.reg ?_
    refine Run.o ?_
    refine Run.o1 (by simp only [go_sem, e1, e2, e3, e4, hsr] <;> rfl) ?_
    refine Run.o ?_
    refine Run.o1 (by simp only [go_sem, e1, e2, e3, e4, hsr]; (try simp (disch := omega) only [if_pos]); (try simp only [go_sem, e1, e2, e3, e4, hsr])<;> rfl) ?_
    refine Run.o1 (by simp only [go_sem, e1, e2, e3, e4, hsr] <;> rfl) ?_
    iterate 2 (refine Run.o ?_)
    refine Run.nil ?_
    refine Exec.reg ?_
    refine Run.o ?_
    refine Run.o1 (by simp only [go_sem, e1, e2, e3, e4, hsr] <;> rfl) ?_
    refine Run.c1 (c_meterworksref07_in _ _ _) (by simp only [go_sem, e1, e2, e3, e4, hsr] <;> rfl) (by simp only [go_sem, e1, e2, e3, e4, hsr] <;> rfl) ?_
    iterate 2 (refine Run.o1 (by simp only [go_sem, e1, e2, e3, e4, hsr] <;> rfl) ?_)
    refine Run.gop (by simp only [go_sem] <;> rfl) (by simp only [go_sem] <;> rfl) (by simp only [go_sem] <;> rfl) ?_
    refine Run.gop (by simp only [go_sem] <;> rfl) (by simp only [go_sem, e1, e2, e3, e4, hsr] <;> rfl) (by simp only [go_sem] <;> rfl) ?_
    refine Run.gcal (by simp only [go_sem] <;> rfl) (c_meterworksref07_in _ _ _) (by simp only [go_sem]) (by simp only [go_sem, e1, e2, e3, e4, hsr] <;> rfl) (by exact ⟨by first | exact WkR.pure rfl | exact WkR.nil _ | exact WkR.int (by first | omega | (simp; done) | (simp; omega)), by first | exact WkR.pure rfl | exact WkR.nil _ | exact WkR.int (by first | omega | (simp; done) | (simp; omega)), by first | exact WkR.pure rfl | exact WkR.nil _ | exact WkR.int (by first | omega | (simp; done) | (simp; omega)), trivial⟩) (by simp only [go_sem, e1, e2, e3, e4, hsr] <;> rfl) ?_
    refine Run.gop (by simp only [go_sem] <;> rfl) (by simp only [go_sem, e1, e2, e3, e4, hsr] <;> rfl) (by simp only [go_sem] <;> rfl) ?_
    iterate 2 (refine Run.o1 (by simp only [go_sem, e1, e2, e3, e4, hsr] <;> rfl) ?_)
    refine Run.gop (by simp only [go_sem] <;> rfl) (by simp only [go_sem] <;> rfl) (by simp only [go_sem] <;> rfl) ?_
    refine Run.gop (by simp only [go_sem] <;> rfl) (by simp only [go_sem, e1, e2, e3, e4, hsr] <;> rfl) (by simp only [go_sem] <;> rfl) ?_
    refine Run.gcal (by simp only [go_sem] <;> rfl) (c_meterworksref07_in _ _ _) (by simp only [go_sem]) (by simp only [go_sem, e1, e2, e3, e4, hsr] <;> rfl) (by exact ⟨by first | exact WkR.pure rfl | exact WkR.nil _ | exact WkR.int (by first | omega | (simp; done) | (simp; omega)), by first | exact WkR.pure rfl | exact WkR.nil _ | exact WkR.int (by first | omega | (simp; done) | (simp; omega)), by first | exact WkR.pure rfl | exact WkR.nil _ | exact WkR.int (by first | omega | (simp; done) | (simp; omega)), trivial⟩) (by simp only [go_sem, e1, e2, e3, e4, hsr] <;> rfl) ?_
    refine Run.gop (by simp only [go_sem] <;> rfl) (by simp only [go_sem, e1, e2, e3, e4, hsr] <;> rfl) (by simp only [go_sem] <;> rfl) ?_
    iterate 2 (refine Run.o1 (by simp only [go_sem, e1, e2, e3, e4, hsr] <;> rfl) ?_)
    refine Run.gop (by simp only [go_sem] <;> rfl) (by simp only [go_sem] <;> rfl) (by simp only [go_sem] <;> rfl) ?_
    refine Run.gop (by simp only [go_sem] <;> rfl) (by simp only [go_sem, e1, e2, e3, e4, hsr] <;> rfl) (by simp only [go_sem] <;> rfl) ?_
    refine Run.gcal (by simp only [go_sem] <;> rfl) (c_meterworksref07_in _ _ _) (by simp only [go_sem]) (by simp only [go_sem, e1, e2, e3, e4, hsr] <;> rfl) (by exact ⟨by first | exact WkR.pure rfl | exact WkR.nil _ | exact WkR.int (by first | omega | (simp; done) | (simp; omega)), by first | exact WkR.pure rfl | exact WkR.nil _ | exact WkR.int (by first | omega | (simp; done) | (simp; omega)), by first | exact WkR.pure rfl | exact WkR.nil _ | exact WkR.int (by first | omega | (simp; done) | (simp; omega)), trivial⟩) (by simp only [go_sem, e1, e2, e3, e4, hsr] <;> rfl) ?_
    refine Run.gop (by simp only [go_sem] <;> rfl) (by simp only [go_sem, e1, e2, e3, e4, hsr] <;> rfl) (by simp only [go_sem] <;> rfl) ?_
    refine Run.o1 (by simp only [go_sem, e1, e2, e3, e4, hsr] <;> rfl) ?_
    refine Run.nil ?_
    refine Exec.cnd (by simp only [go_sem, e1, e2, e3, e4, hsr] <;> rfl) (fun hb66 => ?_) (fun hb66 => ?_)
    · skip
      have hbad : clsOK r = false := by simpa using hb66
      have hall : s.cs.all (clsOK) = false := all_stop hsr hbad
      have hr : stockB s = false := by unfold stockB; rw [hall]; simp
      refine Exec.reg ?_
      refine Run.o ?_
      refine Run.nil ?_
      refine BlkK.ret ?_
      refine ForK.ret ?_
      refine BlkK.ret ?_
      exact Ends.fin [] (rs := [.tmp 2]) rfl (by simp only [go_sem, e1, e2, e3, e4, hsr, hr] <;> rfl) (by simp only [go_sem, e1, e2, e3, e4, hsr, hr] <;> first | rfl | ((repeat' (first | with_reducible_and_instances rfl | refine st_eq ?_ ?_ ?_ | refine ret_eq ?_ | refine tup_eq ?_ | refine tm_eq ?_ ?_ | refine arr_eq ?_ | refine cells_eq ?_ | refine val_eq ?_ | refine ls_eq ?_ ?_ | refine own_eq ?_ ?_ | refine sl_eq ?_ | refine b_eq ?_ | (refine i_eq ?_; omega))); done))
    refine BlkK.nrm ?_
    refine Exec.reg1 ?_
    refine Run.o ?_
    refine Run.o1 (by simp only [go_sem, e1, e2, e3, e4, hsr]; (try simp (disch := omega) only [IntWalk.i64_in, IntWalk.u64_in, if_neg, if_pos])<;> rfl) ?_
    refine Run.o ?_
    refine Run.nil ?_
    refine ForK.nxt ?_ ?_ ?_
    · omega
    · exact Ghost.kp [1, 3] [1] (by simp only [go_sem, e1, e2, e3, e4, hsr]; first | ((repeat' (first | with_reducible_and_instances rfl | refine st_eq ?_ ?_ ?_ | refine ret_eq ?_ | refine tup_eq ?_ | refine tm_eq ?_ ?_ | refine arr_eq ?_ | refine cells_eq ?_ | refine val_eq ?_ | refine ls_eq ?_ ?_ | refine own_eq ?_ ?_ | refine sl_eq ?_ | refine b_eq ?_ | (refine i_eq ?_; omega))); done) | rfl)
    · exact all_step hX hsr (by simpa using hb66)
  have hd1 : s.cs.all (clsOK) = true := all_done hX (ge_of_dec hb37)
  refine Exec.exitS ?_
  refine ForK.ext ?_
  refine BlkK.hit ?_
  refine Exec.assocS ?_
  refine Exec.reg ?_
  refine Run.o ?_
  refine Run.nil ?_
  refine Exec.blk ?_
  refine Exec.forA [1, 5] [1] (s.rs.length) (fun k => [.slot 5 (.int k)]) (fun k => (s.rs.take k).all (slOK s.cs.length) = true) (fun k => by simp only [go_sem] <;> rfl) (by simp only [go_sem, e1, e2, e3, e4] <;> rfl) ?_ (fun k hk hX => ?_)
  · rfl
  refine Exec.assocS ?_
  refine Exec.reg ?_
  iterate 2 (refine Run.o ?_)
  iterate 3 (refine Run.o1 (by simp only [go_sem, e1, e2, e3, e4] <;> rfl) ?_)
  refine Run.nil ?_
  refine Exec.cndS (by simp only [go_sem, e1, e2, e3, e4] <;> rfl) (fun hb71 => ?_) (fun hb71 => ?_)
  · skip
    have hlt := lt_of_dec hb71
    obtain ⟨r, hsr⟩ : ∃ x, (s.rs)[k]? = some x := ⟨_, List.getElem?_eq_getElem hlt⟩
    refine Exec.skipS ?_
    refine Exec.blk ?_
    refine Exec.reg ?_
    refine Run.o ?_
    refine Run.o1 (by simp only [go_sem, e1, e2, e3, e4, hsr] <;> rfl) ?_
    refine Run.o ?_
    refine Run.o1 (by simp only [go_sem, e1, e2, e3, e4, hsr]; (try simp (disch := omega) only [if_pos]); (try simp only [go_sem, e1, e2, e3, e4, hsr])<;> rfl) ?_
    refine Run.o1 (by simp only [go_sem, e1, e2, e3, e4, hsr] <;> rfl) ?_
    iterate 2 (refine Run.o ?_)
    refine Run.nil ?_
    refine Exec.reg ?_
    refine Run.o ?_
    refine Run.o1 (by simp only [go_sem, e1, e2, e3, e4, hsr] <;> rfl) ?_
    refine Run.c1 (c_meterworksref07_in _ _ _) (by simp only [go_sem, e1, e2, e3, e4, hsr] <;> rfl) (by simp only [go_sem, e1, e2, e3, e4, hsr] <;> rfl) ?_
    iterate 2 (refine Run.o1 (by simp only [go_sem, e1, e2, e3, e4, hsr] <;> rfl) ?_)
    refine Run.gop (by simp only [go_sem] <;> rfl) (by simp only [go_sem] <;> rfl) (by simp only [go_sem] <;> rfl) ?_
    refine Run.gop (by simp only [go_sem] <;> rfl) (by simp only [go_sem, e1, e2, e3, e4, hsr] <;> rfl) (by simp only [go_sem] <;> rfl) ?_
    refine Run.gop (by simp only [go_sem] <;> rfl) (by simp only [go_sem] <;> rfl) (by simp only [go_sem] <;> rfl) ?_
    refine Run.gop (by simp only [go_sem] <;> rfl) (by simp only [go_sem, e1, e2, e3, e4, hsr] <;> rfl) (by simp only [go_sem] <;> rfl) ?_
    refine Run.gcal (by simp only [go_sem] <;> rfl) (c_meterworksref07_in _ _ _) (by simp only [go_sem]) (by simp only [go_sem, e1, e2, e3, e4, hsr] <;> rfl) (by exact ⟨by first | exact WkR.pure rfl | exact WkR.nil _ | exact WkR.int (by first | omega | (simp; done) | (simp; omega)), by first | exact WkR.pure rfl | exact WkR.nil _ | exact WkR.int (by first | omega | (simp; done) | (simp; omega)), by first | exact WkR.pure rfl | exact WkR.nil _ | exact WkR.int (by first | omega | (simp; done) | (simp; omega)), trivial⟩) (by simp only [go_sem, e1, e2, e3, e4, hsr] <;> rfl) ?_
    refine Run.gop (by simp only [go_sem] <;> rfl) (by simp only [go_sem, e1, e2, e3, e4, hsr] <;> rfl) (by simp only [go_sem] <;> rfl) ?_
    iterate 2 (refine Run.o1 (by simp only [go_sem, e1, e2, e3, e4, hsr] <;> rfl) ?_)
    refine Run.gop (by simp only [go_sem] <;> rfl) (by simp only [go_sem] <;> rfl) (by simp only [go_sem] <;> rfl) ?_
    refine Run.gop (by simp only [go_sem] <;> rfl) (by simp only [go_sem, e1, e2, e3, e4, hsr] <;> rfl) (by simp only [go_sem] <;> rfl) ?_
    refine Run.gop (by simp only [go_sem] <;> rfl) (by simp only [go_sem] <;> rfl) (by simp only [go_sem] <;> rfl) ?_
    iterate 2 (refine Run.gop (by simp only [go_sem] <;> rfl) (by simp only [go_sem, e1, e2, e3, e4, hsr] <;> rfl) (by simp only [go_sem] <;> rfl) ?_)
    refine Run.gop (by simp only [go_sem] <;> rfl) (by simp only [go_sem, e1, e2, e3, e4, hsr]; (try simp (disch := omega) only [IntWalk.i64_in, IntWalk.u64_in, if_neg, if_pos])<;> rfl) (by simp only [go_sem] <;> rfl) ?_
    refine Run.gcal (by simp only [go_sem] <;> rfl) (c_meterworksref07_in _ _ _) (by simp only [go_sem]) (by simp only [go_sem, e1, e2, e3, e4, hsr] <;> rfl) (by exact ⟨by first | exact WkR.pure rfl | exact WkR.nil _ | exact WkR.int (by first | omega | (simp; done) | (simp; omega)), by first | exact WkR.pure rfl | exact WkR.nil _ | exact WkR.int (by first | omega | (simp; done) | (simp; omega)), by first | exact WkR.pure rfl | exact WkR.nil _ | exact WkR.int (by first | omega | (simp; done) | (simp; omega)), trivial⟩) (by simp only [go_sem, e1, e2, e3, e4, hsr] <;> rfl) ?_
    refine Run.gop (by simp only [go_sem] <;> rfl) (by simp only [go_sem, e1, e2, e3, e4, hsr] <;> rfl) (by simp only [go_sem] <;> rfl) ?_
    iterate 2 (refine Run.o1 (by simp only [go_sem, e1, e2, e3, e4, hsr] <;> rfl) ?_)
    refine Run.gop (by simp only [go_sem] <;> rfl) (by simp only [go_sem] <;> rfl) (by simp only [go_sem] <;> rfl) ?_
    refine Run.gop (by simp only [go_sem] <;> rfl) (by simp only [go_sem, e1, e2, e3, e4, hsr] <;> rfl) (by simp only [go_sem] <;> rfl) ?_
    refine Run.gcal (by simp only [go_sem] <;> rfl) (c_meterworksref07_in _ _ _) (by simp only [go_sem]) (by simp only [go_sem, e1, e2, e3, e4, hsr] <;> rfl) (by exact ⟨by first | exact WkR.pure rfl | exact WkR.nil _ | exact WkR.int (by first | omega | (simp; done) | (simp; omega)), by first | exact WkR.pure rfl | exact WkR.nil _ | exact WkR.int (by first | omega | (simp; done) | (simp; omega)), by first | exact WkR.pure rfl | exact WkR.nil _ | exact WkR.int (by first | omega | (simp; done) | (simp; omega)), trivial⟩) (by simp only [go_sem, e1, e2, e3, e4, hsr] <;> rfl) ?_
    refine Run.gop (by simp only [go_sem] <;> rfl) (by simp only [go_sem, e1, e2, e3, e4, hsr] <;> rfl) (by simp only [go_sem] <;> rfl) ?_
    refine Run.o1 (by simp only [go_sem, e1, e2, e3, e4, hsr] <;> rfl) ?_
    refine Run.nil ?_
    refine Exec.cnd (by simp only [go_sem, e1, e2, e3, e4, hsr] <;> rfl) (fun hb106 => ?_) (fun hb106 => ?_)
    · skip
      have hbad : slOK s.cs.length r = false := by simpa using hb106
      have hall : s.rs.all (slOK s.cs.length) = false := all_stop hsr hbad
      have hr : stockB s = false := by unfold stockB; rw [hall]; simp
      refine Exec.reg ?_
      refine Run.o ?_
      refine Run.nil ?_
      refine BlkK.ret ?_
      refine ForK.ret ?_
      refine BlkK.ret ?_
      exact Ends.fin [] (rs := [.tmp 2]) rfl (by simp only [go_sem, e1, e2, e3, e4, hsr, hr] <;> rfl) (by simp only [go_sem, e1, e2, e3, e4, hsr, hr] <;> first | rfl | ((repeat' (first | with_reducible_and_instances rfl | refine st_eq ?_ ?_ ?_ | refine ret_eq ?_ | refine tup_eq ?_ | refine tm_eq ?_ ?_ | refine arr_eq ?_ | refine cells_eq ?_ | refine val_eq ?_ | refine ls_eq ?_ ?_ | refine own_eq ?_ ?_ | refine sl_eq ?_ | refine b_eq ?_ | (refine i_eq ?_; omega))); done))
    refine BlkK.nrm ?_
    refine Exec.reg1 ?_
    refine Run.o ?_
    refine Run.o1 (by simp only [go_sem, e1, e2, e3, e4, hsr]; (try simp (disch := omega) only [IntWalk.i64_in, IntWalk.u64_in, if_neg, if_pos])<;> rfl) ?_
    refine Run.o ?_
    refine Run.nil ?_
    refine ForK.nxt ?_ ?_ ?_
    · omega
    · exact Ghost.kp [1, 5] [1] (by simp only [go_sem, e1, e2, e3, e4, hsr]; first | ((repeat' (first | with_reducible_and_instances rfl | refine st_eq ?_ ?_ ?_ | refine ret_eq ?_ | refine tup_eq ?_ | refine tm_eq ?_ ?_ | refine arr_eq ?_ | refine cells_eq ?_ | refine val_eq ?_ | refine ls_eq ?_ ?_ | refine own_eq ?_ ?_ | refine sl_eq ?_ | refine b_eq ?_ | (refine i_eq ?_; omega))); done) | rfl)
    · exact all_step hX hsr (by simpa using hb106)
  have hd2 : s.rs.all (slOK s.cs.length) = true := all_done hX (ge_of_dec hb71)
  refine Exec.exitS ?_
  refine ForK.ext ?_
  refine BlkK.hit ?_
  refine Exec.assocS ?_
  refine Exec.reg ?_
  refine Run.o ?_
  refine Run.nil ?_
  refine Exec.blk ?_
  refine Exec.forA [1, 7] [1] (s.ps.length) (fun k => [.slot 7 (.int k)]) (fun k => (s.ps.take k).all (pfOK s.cs.length) = true) (fun k => by simp only [go_sem] <;> rfl) (by simp only [go_sem, e1, e2, e3, e4] <;> rfl) ?_ (fun k hk hX => ?_)
  · rfl
  refine Exec.assocS ?_
  refine Exec.reg ?_
  iterate 2 (refine Run.o ?_)
  iterate 3 (refine Run.o1 (by simp only [go_sem, e1, e2, e3, e4] <;> rfl) ?_)
  refine Run.nil ?_
  refine Exec.cndS (by simp only [go_sem, e1, e2, e3, e4] <;> rfl) (fun hb111 => ?_) (fun hb111 => ?_)
  · skip
    have hlt := lt_of_dec hb111
    obtain ⟨r, hsr⟩ : ∃ x, (s.ps)[k]? = some x := ⟨_, List.getElem?_eq_getElem hlt⟩
    have hss := h.ss r (List.mem_of_getElem? hsr)
    refine Exec.skipS ?_
    refine Exec.blk ?_
    refine Exec.reg ?_
    refine Run.o ?_
    refine Run.o1 (by simp only [go_sem, e1, e2, e3, e4, hsr] <;> rfl) ?_
    refine Run.o ?_
    refine Run.o1 (by simp only [go_sem, e1, e2, e3, e4, hsr]; (try simp (disch := omega) only [if_pos]); (try simp only [go_sem, e1, e2, e3, e4, hsr])<;> rfl) ?_
    refine Run.o1 (by simp only [go_sem, e1, e2, e3, e4, hsr] <;> rfl) ?_
    iterate 2 (refine Run.o ?_)
    refine Run.nil ?_
    refine Exec.assocS ?_
    by_cases hf : pfForm s.cs.length r = true
    · skip
      have hl : r.seals.length ≤ 20 := by
        unfold pfForm at hf
        simp only [Bool.and_eq_true, inB_iff] at hf
        omega
      have hpb := pow2_bnd hl
      have er : pfOK s.cs.length r = (inB r.failed 0 (2 ^ r.seals.length - 1) && r.seals.all fun x => inB x 1 1000000) := by unfold pfOK; rw [hf, Bool.true_and]
      refine Exec.opk 34 ?_
      refine OpenK.o ?_
      refine OpenK.o1 (by simp only [go_sem, e1, e2, e3, e4, hsr, hf] <;> rfl) ?_
      refine OpenK.o ?_
      iterate 2 (refine OpenK.o1 (by simp only [go_sem, e1, e2, e3, e4, hsr, hf] <;> rfl) ?_)
      refine OpenK.o1 (by simp only [go_sem, e1, e2, e3, e4, hsr, hf]; (try simp (disch := omega) only [IntWalk.i64_in, IntWalk.u64_in, if_neg, if_pos])<;> rfl) ?_
      refine OpenK.cal (c_meterworksref07_in _ _ _) (by simp only [go_sem]) (by simp only [go_sem, e1, e2, e3, e4, hsr, hf] <;> rfl) (by exact ⟨by first | exact WkR.pure rfl | exact WkR.nil _ | exact WkR.int (by first | omega | (simp; done) | (simp; omega)), by first | exact WkR.pure rfl | exact WkR.nil _ | exact WkR.int (by first | omega | (simp; done) | (simp; omega)), by first | exact WkR.pure rfl | exact WkR.nil _ | exact WkR.int (by first | omega | (simp; done) | (simp; omega)), trivial⟩) (fr0) (by simp only [go_sem, e1, e2, e3, e4, hsr, hf] <;> rfl) (by simp only [go_sem] <;> rfl) (by simp only [go_sem] <;> rfl) ?_
      iterate 2 (refine OpenK.o1 (by simp only [go_sem, e1, e2, e3, e4, hsr, hf] <;> rfl) ?_)
      refine OpenK.gop (by simp only [go_sem] <;> rfl) (by simp only [go_sem] <;> rfl) (by simp only [go_sem] <;> rfl) ?_
      refine OpenK.gop (by simp only [go_sem] <;> rfl) (by simp only [go_sem, e1, e2, e3, e4, hsr, hf] <;> rfl) (by simp only [go_sem] <;> rfl) ?_
      refine OpenK.gcal (by simp only [go_sem] <;> rfl) (c_meterworksref07_in _ _ _) (by simp only [go_sem]) (by simp only [go_sem, e1, e2, e3, e4, hsr, hf] <;> rfl) (by exact ⟨by first | exact WkR.pure rfl | exact WkR.nil _ | exact WkR.int (by first | omega | (simp; done) | (simp; omega)), by first | exact WkR.pure rfl | exact WkR.nil _ | exact WkR.int (by first | omega | (simp; done) | (simp; omega)), by first | exact WkR.pure rfl | exact WkR.nil _ | exact WkR.int (by first | omega | (simp; done) | (simp; omega)), trivial⟩) (by simp only [go_sem, e1, e2, e3, e4, hsr, hf] <;> rfl) (by simp only [go_sem] <;> rfl) ?_
      refine OpenK.gop (by simp only [go_sem] <;> rfl) (by simp only [go_sem, e1, e2, e3, e4, hsr, hf] <;> rfl) (by simp only [go_sem] <;> rfl) ?_
      iterate 2 (refine OpenK.o1 (by simp only [go_sem, e1, e2, e3, e4, hsr, hf] <;> rfl) ?_)
      refine OpenK.gop (by simp only [go_sem] <;> rfl) (by simp only [go_sem] <;> rfl) (by simp only [go_sem] <;> rfl) ?_
      iterate 2 (refine OpenK.gop (by simp only [go_sem] <;> rfl) (by simp only [go_sem, e1, e2, e3, e4, hsr, hf] <;> rfl) (by simp only [go_sem] <;> rfl) ?_)
      refine OpenK.gcal (by simp only [go_sem] <;> rfl) (c_meterworksref07_in _ _ _) (by simp only [go_sem]) (by simp only [go_sem, e1, e2, e3, e4, hsr, hf] <;> rfl) (by exact ⟨by first | exact WkR.pure rfl | exact WkR.nil _ | exact WkR.int (by first | omega | (simp; done) | (simp; omega)), by first | exact WkR.pure rfl | exact WkR.nil _ | exact WkR.int (by first | omega | (simp; done) | (simp; omega)), by first | exact WkR.pure rfl | exact WkR.nil _ | exact WkR.int (by first | omega | (simp; done) | (simp; omega)), trivial⟩) (by simp only [go_sem, e1, e2, e3, e4, hsr, hf] <;> rfl) (by simp only [go_sem] <;> rfl) ?_
      refine OpenK.gop (by simp only [go_sem] <;> rfl) (by simp only [go_sem, e1, e2, e3, e4, hsr, hf] <;> rfl) (by simp only [go_sem] <;> rfl) ?_
      iterate 2 (refine OpenK.o1 (by simp only [go_sem, e1, e2, e3, e4, hsr, hf] <;> rfl) ?_)
      refine OpenK.y1 (by simp only [go_sem] <;> rfl) ?_
      refine OpenK.y1 (by simp only [go_sem, e1, e2, e3, e4, hsr, hf] <;> rfl) ?_
      refine OpenK.y1 (by simp only [go_sem] <;> rfl) ?_
      iterate 2 (refine OpenK.y1 (by simp only [go_sem, e1, e2, e3, e4, hsr, hf] <;> rfl) ?_)
      refine OpenK.calw (by simp only [go_sem] <;> rfl) (c_meterworksref07_power r.seals.length hl) (by simp only [go_sem]) (by simp only [go_sem, e1, e2, e3, e4, hsr, hf] <;> rfl) (by simp only [go_sem, e1, e2, e3, e4, hsr, hf] <;> rfl) (by exact ⟨by first | exact WkR.pure rfl | exact WkR.nil _ | exact WkR.int (by first | omega | (simp; done) | (simp; omega)), trivial⟩) (fr0) (by simp only [go_sem, e1, e2, e3, e4, hsr, hf] <;> rfl) (by simp only [go_sem] <;> rfl) (by simp only [go_sem] <;> rfl) ?_
      refine OpenK.y1 (by simp only [go_sem, e1, e2, e3, e4, hsr, hf]; (try simp (disch := omega) only [IntWalk.i64_in, IntWalk.u64_in, if_neg, if_pos])<;> rfl) ?_
      refine OpenK.calw (by simp only [go_sem] <;> rfl) (c_meterworksref07_in _ _ _) (by simp only [go_sem]) (by simp only [go_sem, e1, e2, e3, e4, hsr, hf] <;> rfl) (by simp only [go_sem, e1, e2, e3, e4, hsr, hf] <;> rfl) (by exact ⟨by first | exact WkR.pure rfl | exact WkR.nil _ | exact WkR.int (by first | omega | (simp; done) | (simp; omega)), by first | exact WkR.pure rfl | exact WkR.nil _ | exact WkR.int (by first | omega | (simp; done) | (simp; omega)), by first | exact WkR.pure rfl | exact WkR.nil _ | exact WkR.int (by first | omega | (simp; done) | (simp; omega)), trivial⟩) (fr0) (by simp only [go_sem, e1, e2, e3, e4, hsr, hf] <;> rfl) (by simp only [go_sem] <;> rfl) (by simp only [go_sem] <;> rfl) ?_
      refine OpenK.y1 (by simp only [go_sem, e1, e2, e3, e4, hsr, hf] <;> rfl) ?_
      refine OpenK.o1 (by simp only [go_sem, e1, e2, e3, e4, hsr, hf] <;> rfl) ?_
      refine OpenK.nil (OpenE.finT (by kernel_rfl) (by kernel_rfl) (by kernel_rfl) ?_)
      refine Exec.cndS (by simp only [go_sem, e1, e2, e3, e4, hsr, hf] <;> rfl) (fun hb150 => ?_) (fun hb150 => ?_)
      · skip
        have hin : inB r.failed 0 (2 ^ r.seals.length - 1) = false := by simpa using hb150
        have hbad : pfOK s.cs.length r = false := by rw [er, hin]; rfl
        have hall : s.ps.all (pfOK s.cs.length) = false := all_stop hsr hbad
        have hr : stockB s = false := by unfold stockB; rw [hall]; simp
        refine Exec.assocS ?_
        refine Exec.reg ?_
        refine Run.o ?_
        refine Run.nil ?_
        refine Exec.retS ?_
        refine BlkK.ret ?_
        refine ForK.ret ?_
        refine BlkK.ret ?_
        exact Ends.fin [] (rs := [.tmp 2]) rfl (by simp only [go_sem, e1, e2, e3, e4, hsr, hf, hr] <;> rfl) (by simp only [go_sem, e1, e2, e3, e4, hsr, hf, hr] <;> first | rfl | ((repeat' (first | with_reducible_and_instances rfl | refine st_eq ?_ ?_ ?_ | refine ret_eq ?_ | refine tup_eq ?_ | refine tm_eq ?_ ?_ | refine arr_eq ?_ | refine cells_eq ?_ | refine val_eq ?_ | refine ls_eq ?_ ?_ | refine own_eq ?_ ?_ | refine sl_eq ?_ | refine b_eq ?_ | (refine i_eq ?_; omega))); done))
      have hin : inB r.failed 0 (2 ^ r.seals.length - 1) = true := by simpa using hb150
      refine Exec.skipS ?_
      refine Exec.reg ?_
      refine Run.o ?_
      refine Run.nil ?_
      refine Exec.blk1 ?_
      refine Exec.forA [1, 7, 8, 9] [1, 8] (r.seals.length) (fun j => [.slot 9 (.int j)]) (fun j => (r.seals.take j).all (fun x => inB x 1 1000000) = true) (fun j => by simp only [go_sem] <;> rfl) (by simp only [go_sem, e1, e2, e3, e4, hsr, hf] <;> rfl) ?_ (fun j hj Xj => ?_)
      · rfl
      refine Exec.assocS ?_
      refine Exec.reg ?_
      iterate 2 (refine Run.o ?_)
      iterate 3 (refine Run.o1 (by simp only [go_sem, e1, e2, e3, e4, hsr, hf] <;> rfl) ?_)
      refine Run.nil ?_
      refine Exec.cndS (by simp only [go_sem, e1, e2, e3, e4, hsr, hf] <;> rfl) (fun hb155 => ?_) (fun hb155 => ?_)
      · skip
        have hlt := lt_of_dec hb155
        obtain ⟨x, hsx⟩ : ∃ x, (r.seals)[j]? = some x := ⟨_, List.getElem?_eq_getElem hlt⟩
        refine Exec.skipS ?_
        refine Exec.blk ?_
        refine Exec.reg ?_
        refine Run.o ?_
        refine Run.o1 (by simp only [go_sem, e1, e2, e3, e4, hsr, hf, hsx] <;> rfl) ?_
        refine Run.o ?_
        refine Run.o1 (by simp only [go_sem, e1, e2, e3, e4, hsr, hf, hsx]; (try simp (disch := omega) only [if_pos]); (try simp only [go_sem, e1, e2, e3, e4, hsr, hf, hsx])<;> rfl) ?_
        refine Run.o1 (by simp only [go_sem, e1, e2, e3, e4, hsr, hf, hsx] <;> rfl) ?_
        refine Run.c1 (c_meterworksref07_in _ _ _) (by simp only [go_sem, e1, e2, e3, e4, hsr, hf, hsx] <;> rfl) (by simp only [go_sem, e1, e2, e3, e4, hsr, hf, hsx] <;> rfl) ?_
        refine Run.o1 (by simp only [go_sem, e1, e2, e3, e4, hsr, hf, hsx] <;> rfl) ?_
        refine Run.nil ?_
        refine Exec.cnd (by simp only [go_sem, e1, e2, e3, e4, hsr, hf, hsx] <;> rfl) (fun hb164 => ?_) (fun hb164 => ?_)
        · skip
          have hbx : inB x 1 1000000 = false := by simpa using hb164
          have hbad : pfOK s.cs.length r = false := by rw [er, hin, Bool.true_and]; exact all_stop hsx hbx
          have hall : s.ps.all (pfOK s.cs.length) = false := all_stop hsr hbad
          have hr : stockB s = false := by unfold stockB; rw [hall]; simp
          refine Exec.reg ?_
          refine Run.o ?_
          refine Run.nil ?_
          refine BlkK.ret ?_
          refine ForK.ret ?_
          refine Blk1K.ret ?_
          refine BlkK.ret ?_
          refine ForK.ret ?_
          refine BlkK.ret ?_
          exact Ends.fin [] (rs := [.tmp 2]) rfl (by simp only [go_sem, e1, e2, e3, e4, hsr, hf, hsx, hr] <;> rfl) (by simp only [go_sem, e1, e2, e3, e4, hsr, hf, hsx, hr] <;> first | rfl | ((repeat' (first | with_reducible_and_instances rfl | refine st_eq ?_ ?_ ?_ | refine ret_eq ?_ | refine tup_eq ?_ | refine tm_eq ?_ ?_ | refine arr_eq ?_ | refine cells_eq ?_ | refine val_eq ?_ | refine ls_eq ?_ ?_ | refine own_eq ?_ ?_ | refine sl_eq ?_ | refine b_eq ?_ | (refine i_eq ?_; omega))); done))
        refine BlkK.nrm ?_
        refine Exec.reg1 ?_
        refine Run.o ?_
        refine Run.o1 (by simp only [go_sem, e1, e2, e3, e4, hsr, hf, hsx]; (try simp (disch := omega) only [IntWalk.i64_in, IntWalk.u64_in, if_neg, if_pos])<;> rfl) ?_
        refine Run.o ?_
        refine Run.nil ?_
        refine ForK.nxt ?_ ?_ ?_
        · omega
        · exact Ghost.kp [1, 7, 8, 9] [1, 8] (by simp only [go_sem, e1, e2, e3, e4, hsr, hf, hsx]; first | ((repeat' (first | with_reducible_and_instances rfl | refine st_eq ?_ ?_ ?_ | refine ret_eq ?_ | refine tup_eq ?_ | refine tm_eq ?_ ?_ | refine arr_eq ?_ | refine cells_eq ?_ | refine val_eq ?_ | refine ls_eq ?_ ?_ | refine own_eq ?_ ?_ | refine sl_eq ?_ | refine b_eq ?_ | (refine i_eq ?_; omega))); done) | rfl)
        · exact all_step Xj hsx (by simpa using hb164)
      have hok : pfOK s.cs.length r = true := by rw [er, hin, Bool.true_and]; exact all_done Xj (ge_of_dec hb155)
      refine Exec.exitS ?_
      refine ForK.ext ?_
      refine Blk1K.hit ?_
      refine BlkK.nrm ?_
      refine Exec.reg1 ?_
      refine Run.o ?_
      refine Run.o1 (by simp only [go_sem, e1, e2, e3, e4, hsr, hf]; (try simp (disch := omega) only [IntWalk.i64_in, IntWalk.u64_in, if_neg, if_pos])<;> rfl) ?_
      refine Run.o ?_
      refine Run.nil ?_
      refine ForK.nxt ?_ ?_ ?_
      · omega
      · exact Ghost.kp [1, 7] [1] (by simp only [go_sem, e1, e2, e3, e4, hsr, hf]; first | ((repeat' (first | with_reducible_and_instances rfl | refine st_eq ?_ ?_ ?_ | refine ret_eq ?_ | refine tup_eq ?_ | refine tm_eq ?_ ?_ | refine arr_eq ?_ | refine cells_eq ?_ | refine val_eq ?_ | refine ls_eq ?_ ?_ | refine own_eq ?_ ?_ | refine sl_eq ?_ | refine b_eq ?_ | (refine i_eq ?_; omega))); done) | rfl)
      · exact all_step hX hsr hok
    have hf : pfForm s.cs.length r = false := by simpa using hf
    have hbad : pfOK s.cs.length r = false := by unfold pfOK; rw [hf]; rfl
    refine Exec.opk 34 ?_
    refine OpenK.o ?_
    refine OpenK.o1 (by simp only [go_sem, e1, e2, e3, e4, hsr, hf] <;> rfl) ?_
    refine OpenK.o ?_
    iterate 2 (refine OpenK.o1 (by simp only [go_sem, e1, e2, e3, e4, hsr, hf] <;> rfl) ?_)
    refine OpenK.o1 (by simp only [go_sem, e1, e2, e3, e4, hsr, hf]; (try simp (disch := omega) only [IntWalk.i64_in, IntWalk.u64_in, if_neg, if_pos])<;> rfl) ?_
    refine OpenK.cal (c_meterworksref07_in _ _ _) (by simp only [go_sem]) (by simp only [go_sem, e1, e2, e3, e4, hsr, hf] <;> rfl) (by exact ⟨by first | exact WkR.pure rfl | exact WkR.nil _ | exact WkR.int (by first | omega | (simp; done) | (simp; omega)), by first | exact WkR.pure rfl | exact WkR.nil _ | exact WkR.int (by first | omega | (simp; done) | (simp; omega)), by first | exact WkR.pure rfl | exact WkR.nil _ | exact WkR.int (by first | omega | (simp; done) | (simp; omega)), trivial⟩) (fr0) (by simp only [go_sem, e1, e2, e3, e4, hsr, hf] <;> rfl) (by simp only [go_sem] <;> rfl) (by simp only [go_sem] <;> rfl) ?_
    iterate 2 (refine OpenK.o1 (by simp only [go_sem, e1, e2, e3, e4, hsr, hf] <;> rfl) ?_)
    refine OpenK.gop (by simp only [go_sem] <;> rfl) (by simp only [go_sem] <;> rfl) (by simp only [go_sem] <;> rfl) ?_
    refine OpenK.gop (by simp only [go_sem] <;> rfl) (by simp only [go_sem, e1, e2, e3, e4, hsr, hf] <;> rfl) (by simp only [go_sem] <;> rfl) ?_
    refine OpenK.gcal (by simp only [go_sem] <;> rfl) (c_meterworksref07_in _ _ _) (by simp only [go_sem]) (by simp only [go_sem, e1, e2, e3, e4, hsr, hf] <;> rfl) (by exact ⟨by first | exact WkR.pure rfl | exact WkR.nil _ | exact WkR.int (by first | omega | (simp; done) | (simp; omega)), by first | exact WkR.pure rfl | exact WkR.nil _ | exact WkR.int (by first | omega | (simp; done) | (simp; omega)), by first | exact WkR.pure rfl | exact WkR.nil _ | exact WkR.int (by first | omega | (simp; done) | (simp; omega)), trivial⟩) (by simp only [go_sem, e1, e2, e3, e4, hsr, hf] <;> rfl) (by simp only [go_sem] <;> rfl) ?_
    refine OpenK.gop (by simp only [go_sem] <;> rfl) (by simp only [go_sem, e1, e2, e3, e4, hsr, hf] <;> rfl) (by simp only [go_sem] <;> rfl) ?_
    iterate 2 (refine OpenK.o1 (by simp only [go_sem, e1, e2, e3, e4, hsr, hf] <;> rfl) ?_)
    refine OpenK.gop (by simp only [go_sem] <;> rfl) (by simp only [go_sem] <;> rfl) (by simp only [go_sem] <;> rfl) ?_
    iterate 2 (refine OpenK.gop (by simp only [go_sem] <;> rfl) (by simp only [go_sem, e1, e2, e3, e4, hsr, hf] <;> rfl) (by simp only [go_sem] <;> rfl) ?_)
    refine OpenK.gcal (by simp only [go_sem] <;> rfl) (c_meterworksref07_in _ _ _) (by simp only [go_sem]) (by simp only [go_sem, e1, e2, e3, e4, hsr, hf] <;> rfl) (by exact ⟨by first | exact WkR.pure rfl | exact WkR.nil _ | exact WkR.int (by first | omega | (simp; done) | (simp; omega)), by first | exact WkR.pure rfl | exact WkR.nil _ | exact WkR.int (by first | omega | (simp; done) | (simp; omega)), by first | exact WkR.pure rfl | exact WkR.nil _ | exact WkR.int (by first | omega | (simp; done) | (simp; omega)), trivial⟩) (by simp only [go_sem, e1, e2, e3, e4, hsr, hf] <;> rfl) (by simp only [go_sem] <;> rfl) ?_
    refine OpenK.gop (by simp only [go_sem] <;> rfl) (by simp only [go_sem, e1, e2, e3, e4, hsr, hf] <;> rfl) (by simp only [go_sem] <;> rfl) ?_
    iterate 2 (refine OpenK.o1 (by simp only [go_sem, e1, e2, e3, e4, hsr, hf] <;> rfl) ?_)
    iterate 9 (refine OpenK.s ?_)
    refine OpenK.o1 (by simp only [go_sem, e1, e2, e3, e4, hsr, hf] <;> rfl) ?_
    refine OpenK.nil (OpenE.finT (by kernel_rfl) (by kernel_rfl) (by kernel_rfl) ?_)
    refine Exec.cndS (by simp only [go_sem, e1, e2, e3, e4, hsr, hf] <;> rfl) (fun hb150 => ?_) (fun hb150 => ?_)
    · skip
      have hall : s.ps.all (pfOK s.cs.length) = false := all_stop hsr hbad
      have hr : stockB s = false := by unfold stockB; rw [hall]; simp
      refine Exec.assocS ?_
      refine Exec.reg ?_
      refine Run.o ?_
      refine Run.nil ?_
      refine Exec.retS ?_
      refine BlkK.ret ?_
      refine ForK.ret ?_
      refine BlkK.ret ?_
      exact Ends.fin [] (rs := [.tmp 2]) rfl (by simp only [go_sem, e1, e2, e3, e4, hsr, hf, hr] <;> rfl) (by simp only [go_sem, e1, e2, e3, e4, hsr, hf, hr] <;> first | rfl | ((repeat' (first | with_reducible_and_instances rfl | refine st_eq ?_ ?_ ?_ | refine ret_eq ?_ | refine tup_eq ?_ | refine tm_eq ?_ ?_ | refine arr_eq ?_ | refine cells_eq ?_ | refine val_eq ?_ | refine ls_eq ?_ ?_ | refine own_eq ?_ ?_ | refine sl_eq ?_ | refine b_eq ?_ | (refine i_eq ?_; omega))); done))
    · exact absurd hb150 (by simp)
  have hd3 : s.ps.all (pfOK s.cs.length) = true := all_done hX (ge_of_dec hb111)
  refine Exec.exitS ?_
  refine ForK.ext ?_
  refine BlkK.hit ?_
  refine Exec.assocS ?_
  refine Exec.reg ?_
  refine Run.o ?_
  refine Run.nil ?_
  refine Exec.blk ?_
  refine Exec.forA [1, 10] [1] (s.bs.length) (fun k => [.slot 10 (.int k)]) (fun k => (s.bs.take k).all brOK = true) (fun k => by simp only [go_sem] <;> rfl) (by simp only [go_sem, e1, e2, e3, e4] <;> rfl) ?_ (fun k hk hX => ?_)
  · rfl
  refine Exec.assocS ?_
  refine Exec.reg ?_
  iterate 2 (refine Run.o ?_)
  iterate 3 (refine Run.o1 (by simp only [go_sem, e1, e2, e3, e4] <;> rfl) ?_)
  refine Run.nil ?_
  refine Exec.cndS (by simp only [go_sem, e1, e2, e3, e4] <;> rfl) (fun hb169 => ?_) (fun hb169 => ?_)
  · skip
    have hlt := lt_of_dec hb169
    obtain ⟨r, hsr⟩ : ∃ x, (s.bs)[k]? = some x := ⟨_, List.getElem?_eq_getElem hlt⟩
    refine Exec.skipS ?_
    refine Exec.blk ?_
    refine Exec.reg ?_
    refine Run.o ?_
    refine Run.o1 (by simp only [go_sem, e1, e2, e3, e4, hsr, Int.toNat_zero, Nat.zero_mul, Int.toNat_one, Nat.one_mul] <;> rfl) ?_
    refine Run.o ?_
    iterate 2 (refine Run.o1 (by simp only [go_sem, e1, e2, e3, e4, hsr, Int.toNat_zero, Nat.zero_mul, Int.toNat_one, Nat.one_mul]; (try simp (disch := omega) only [if_pos]); (try simp only [go_sem, e1, e2, e3, e4, hsr, Int.toNat_zero, Nat.zero_mul, Int.toNat_one, Nat.one_mul])<;> rfl) ?_)
    refine Run.o1 (by simp only [go_sem, e1, e2, e3, e4, hsr, Int.toNat_zero, Nat.zero_mul, Int.toNat_one, Nat.one_mul] <;> rfl) ?_
    refine Run.c1 (c_meterworksref07_in _ _ _) (by simp only [go_sem, e1, e2, e3, e4, hsr, Int.toNat_zero, Nat.zero_mul, Int.toNat_one, Nat.one_mul] <;> rfl) (by simp only [go_sem, e1, e2, e3, e4, hsr, Int.toNat_zero, Nat.zero_mul, Int.toNat_one, Nat.one_mul] <;> rfl) ?_
    iterate 2 (refine Run.o1 (by simp only [go_sem, e1, e2, e3, e4, hsr, Int.toNat_zero, Nat.zero_mul, Int.toNat_one, Nat.one_mul] <;> rfl) ?_)
    refine Run.gop (by simp only [go_sem] <;> rfl) (by simp only [go_sem] <;> rfl) (by simp only [go_sem] <;> rfl) ?_
    refine Run.gop (by simp only [go_sem] <;> rfl) (by simp only [go_sem, e1, e2, e3, e4, hsr, Int.toNat_zero, Nat.zero_mul, Int.toNat_one, Nat.one_mul] <;> rfl) (by simp only [go_sem] <;> rfl) ?_
    refine Run.gop (by simp only [go_sem] <;> rfl) (by simp only [go_sem] <;> rfl) (by simp only [go_sem] <;> rfl) ?_
    iterate 2 (refine Run.gop (by simp only [go_sem] <;> rfl) (by simp only [go_sem, e1, e2, e3, e4, hsr, Int.toNat_zero, Nat.zero_mul, Int.toNat_one, Nat.one_mul]; (try simp (disch := omega) only [if_pos]); (try simp only [go_sem, e1, e2, e3, e4, hsr, Int.toNat_zero, Nat.zero_mul, Int.toNat_one, Nat.one_mul])<;> rfl) (by simp only [go_sem] <;> rfl) ?_)
    refine Run.gop (by simp only [go_sem] <;> rfl) (by simp only [go_sem, e1, e2, e3, e4, hsr, Int.toNat_zero, Nat.zero_mul, Int.toNat_one, Nat.one_mul] <;> rfl) (by simp only [go_sem] <;> rfl) ?_
    refine Run.gcal (by simp only [go_sem] <;> rfl) (c_meterworksref07_in _ _ _) (by simp only [go_sem]) (by simp only [go_sem, e1, e2, e3, e4, hsr, Int.toNat_zero, Nat.zero_mul, Int.toNat_one, Nat.one_mul] <;> rfl) (by exact ⟨by first | exact WkR.pure rfl | exact WkR.nil _ | exact WkR.int (by first | omega | (simp; done) | (simp; omega)), by first | exact WkR.pure rfl | exact WkR.nil _ | exact WkR.int (by first | omega | (simp; done) | (simp; omega)), by first | exact WkR.pure rfl | exact WkR.nil _ | exact WkR.int (by first | omega | (simp; done) | (simp; omega)), trivial⟩) (by simp only [go_sem, e1, e2, e3, e4, hsr, Int.toNat_zero, Nat.zero_mul, Int.toNat_one, Nat.one_mul] <;> rfl) ?_
    refine Run.gop (by simp only [go_sem] <;> rfl) (by simp only [go_sem, e1, e2, e3, e4, hsr, Int.toNat_zero, Nat.zero_mul, Int.toNat_one, Nat.one_mul] <;> rfl) (by simp only [go_sem] <;> rfl) ?_
    refine Run.o1 (by simp only [go_sem, e1, e2, e3, e4, hsr, Int.toNat_zero, Nat.zero_mul, Int.toNat_one, Nat.one_mul] <;> rfl) ?_
    refine Run.nil ?_
    refine Exec.cnd (by simp only [go_sem, e1, e2, e3, e4, hsr, Int.toNat_zero, Nat.zero_mul, Int.toNat_one, Nat.one_mul] <;> rfl) (fun hb189 => ?_) (fun hb189 => ?_)
    · skip
      have hbad : brOK r = false := by simpa using hb189
      have hall : s.bs.all (brOK) = false := all_stop hsr hbad
      have hr : stockB s = false := by unfold stockB; rw [hall]; simp
      refine Exec.reg ?_
      refine Run.o ?_
      refine Run.nil ?_
      refine BlkK.ret ?_
      refine ForK.ret ?_
      refine BlkK.ret ?_
      exact Ends.fin [] (rs := [.tmp 2]) rfl (by simp only [go_sem, e1, e2, e3, e4, hsr, Int.toNat_zero, Nat.zero_mul, Int.toNat_one, Nat.one_mul, hr] <;> rfl) (by simp only [go_sem, e1, e2, e3, e4, hsr, Int.toNat_zero, Nat.zero_mul, Int.toNat_one, Nat.one_mul, hr] <;> first | rfl | ((repeat' (first | with_reducible_and_instances rfl | refine st_eq ?_ ?_ ?_ | refine ret_eq ?_ | refine tup_eq ?_ | refine tm_eq ?_ ?_ | refine arr_eq ?_ | refine cells_eq ?_ | refine val_eq ?_ | refine ls_eq ?_ ?_ | refine own_eq ?_ ?_ | refine sl_eq ?_ | refine b_eq ?_ | (refine i_eq ?_; omega))); done))
    refine BlkK.nrm ?_
    refine Exec.reg1 ?_
    refine Run.o ?_
    refine Run.o1 (by simp only [go_sem, e1, e2, e3, e4, hsr, Int.toNat_zero, Nat.zero_mul, Int.toNat_one, Nat.one_mul]; (try simp (disch := omega) only [IntWalk.i64_in, IntWalk.u64_in, if_neg, if_pos])<;> rfl) ?_
    refine Run.o ?_
    refine Run.nil ?_
    refine ForK.nxt ?_ ?_ ?_
    · omega
    · exact Ghost.kp [1, 10] [1] (by simp only [go_sem, e1, e2, e3, e4, hsr, Int.toNat_zero, Nat.zero_mul, Int.toNat_one, Nat.one_mul]; first | ((repeat' (first | with_reducible_and_instances rfl | refine st_eq ?_ ?_ ?_ | refine ret_eq ?_ | refine tup_eq ?_ | refine tm_eq ?_ ?_ | refine arr_eq ?_ | refine cells_eq ?_ | refine val_eq ?_ | refine ls_eq ?_ ?_ | refine own_eq ?_ ?_ | refine sl_eq ?_ | refine b_eq ?_ | (refine i_eq ?_; omega))); done) | rfl)
    · exact all_step hX hsr (by simpa using hb189)
  have hd4 : s.bs.all (brOK) = true := all_done hX (ge_of_dec hb169)
  have hr : stockB s = true := by unfold stockB; rw [hsz, hd1, hd2, hd3, hd4]; rfl
  refine Exec.exitS ?_
  refine ForK.ext ?_
  refine BlkK.hit ?_
  refine Exec.reg ?_
  refine Run.o ?_
  refine Run.nil ?_
  exact Ends.fin [] (rs := [.tmp 2]) rfl (by simp only [go_sem, hr] <;> rfl) (by simp only [go_sem, hr] <;> first | rfl | ((repeat' (first | with_reducible_and_instances rfl | refine st_eq ?_ ?_ ?_ | refine ret_eq ?_ | refine tup_eq ?_ | refine tm_eq ?_ ?_ | refine arr_eq ?_ | refine cells_eq ?_ | refine val_eq ?_ | refine ls_eq ?_ ?_ | refine own_eq ?_ ?_ | refine sl_eq ?_ | refine b_eq ?_ | (refine i_eq ?_; omega))); done))

end Go.Mw

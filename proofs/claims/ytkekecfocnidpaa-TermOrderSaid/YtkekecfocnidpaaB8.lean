/- Contracts of the functions that the term reaches: rows that are lent, and the map of broken seals. -/
import Derived.Test.YtkekecfocnidpaaB7
import Derived.Test.YtkekecfocnidpaaB3
import Derived.Test.YtkekecfocnidpaaB6
set_option linter.unusedSimpArgs false
set_option linter.unusedVariables false
set_option linter.unusedSectionVars false
set_option linter.deprecated false
namespace Go.Mw
open Go.Proofs
open Go.Te
abbrev Rws := List (Sl × Int × Int)
theorem force_in (p : Sl × Int × Int) (d : Int) : inB d p.1.day (p.2.1 - 1) = inForce p.1 p.2.1 d := by
  unfold inB inForce
  congr 1
  exact decide_eq_decide.2 (by omega)
/-- A broken seal's entry in the map. -/
@[go_sem] def encBk (b : Br) : Value × Bool × List AL := (.int .i64 b.no, false, [.d (.i b.day)])
theorem map_get (x : Int) : ∀ bs : List Br, mapGet 0 (.int .i64 x) (bs.map encBk) = some ((bs.find? fun b => b.no == x).map fun b => (false, [.d (.i b.day)]))
  | [] => rfl
  | b :: bs => by
    have ih := map_get x bs
    simp only [List.map_cons, encBk, mapGet, keyEq, if_true, List.find?_cons]
    by_cases h : b.no = x
    · simp [h]
    · have h1 : (x == b.no) = false := by simpa using fun e => h e.symm
      have h2 : (b.no == x) = false := by simpa using h
      rw [h1, h2]
      exact ih
theorem map_set (x d : Int) : ∀ bs : List Br, (bs.any fun b => b.no == x) = false → mapSet 0 (.int .i64 x) (false, [.d (.i d)]) (bs.map encBk) = some ((bs ++ [Br.mk x d]).map encBk)
  | [], _ => rfl
  | b :: bs, h => by
    simp only [List.any_cons, Bool.or_eq_false_iff] at h
    have ih := map_set x d bs h.2
    have h1 : (x == b.no) = false := by have := h.1; simp only [beq_eq_false_iff_ne] at this ⊢; exact fun e => this e.symm
    simp only [List.map_cons, encBk, mapSet, keyEq, if_true, h1] at ih ⊢
    rw [ih]
    rfl
def isBk (bs : List Br) (x d : Int) : Bool := match bs.find? fun b => b.no == x with
  | some b => decide (b.day ≤ d)
  | none => false
def cntBk (bs : List Br) (r : Sl) (d : Int) : Nat := bs.countP fun b => inB b.no r.fr r.to && decide (b.day ≤ d)
@[go_sem] def findV (n : Nat) : Option Nat → AV
  | some i => .leaf (.eptr 900 i 0 n)
  | none => .raw (.pointer none)
def findD (rows : Rws) : Option Nat → AV
  | some i => .leaf (.d (.pt (encRow (rows.getD i default))))
  | none => .raw (.pointer none)
abbrev bkM (bs : List Br) : AO := .map (bs.map encBk)
abbrev mapF : List FL := [.dead, .dead, .dead, .dead, .dead, .obj 901]
abbrev rowsF (s : Stk) (n : Nat) : List FL := [.d (csD s.cs), .d (slsD s.rs), .d (psD s.ps), .d (bsD s.bs), .own 900 0 n n]
abbrev rowsC (s : Stk) (n : Nat) : List AL := [.d (csD s.cs), .d (slsD s.rs), .d (psD s.ps), .d (bsD s.bs), .own 900 0 n n, .obj 901]
@[go_sem ↓] theorem keep_bk (os : List Nat) (bs : List Br) : (AO.map (bs.map encBk)).keep os = .map (bs.map encBk) := by
  show AO.map _ = _
  rw [List.map_map]
  rfl
@[go_sem ↓] theorem ren_bk (r : Nat → Nat) (bs : List Br) : (AO.map (bs.map encBk)).ren r = .map (bs.map encBk) := by
  show AO.map _ = _
  rw [List.map_map]
  rfl
@[go_sem ↓] theorem kp_bk (q : Nat → Bool) (bs : List Br) : (AO.map (bs.map encBk)).kp q = .map (bs.map encBk) := by
  show AO.map _ = _
  rw [List.map_map]
  rfl
theorem mapL_bk {φ : AL → AL} (h : ∀ x, φ (.d x) = .d x) (bs : List Br) : (AO.map (bs.map encBk)).mapL φ = .map (bs.map encBk) := by
  show AO.map _ = _
  rw [List.map_map]
  congr 1
  refine List.map_congr_left fun b _ => ?_
  show (_, _, [φ _]) = _
  rw [h]; rfl
@[go_sem ↓] theorem frz_bk (o k : Nat) (es : List (List D)) (bs : List Br) : (AO.map (bs.map encBk)).mapL (AL.frz o k es) = .map (bs.map encBk) := mapL_bk (fun _ => rfl) bs
@[go_sem ↓] theorem frzc_bk (o : Nat) (ds : List D) (bs : List Br) : (AO.map (bs.map encBk)).mapL (AL.frzc o ds) = .map (bs.map encBk) := mapL_bk (fun _ => rfl) bs
@[go_sem ↓] theorem frzf_bk (o : Nat) (d : D) (bs : List Br) : (AO.map (bs.map encBk)).mapL (AL.frzf o d) = .map (bs.map encBk) := mapL_bk (fun _ => rfl) bs
@[go_sem ↓] theorem frp_bk (o : Nat) (fs : List FL) (bs : List Br) : (AO.map (bs.map encBk)).mapL (AL.frp o fs) = .map (bs.map encBk) := mapL_bk (fun _ => rfl) bs
theorem bk_keys (bs : List Br) : ∀ p ∈ bs.map encBk, p.1.oneCell' = true := by
  intro p hp
  obtain ⟨b, _, rfl⟩ := List.mem_map.1 hp
  rfl
set_option maxRecDepth 20000 in
/-- (*meterworks/term.row).force -/
theorem c_row_force_l (rows : Rws) (n i : Nat) (hn : rows.length = n) (p : Sl × Int × Int) (hp : rows[i]? = some p) (d : Int) (hb : -1000000 ≤ p.2.1 ∧ p.2.1 ≤ 1000000) : Con Try.prog 60 [.leaf (.eptr 900 i 0 n), .int d] [(900, .arr 70 6 ((rows).map encRow))] (.ret (.bool (inForce p.1 p.2.1 d)) [(900, .arr 70 6 ((rows).map encRow))]) := by
  have e := force_in p d
  refine con_of follows_mixed Try.func60 rfl (by simp only [List.length_cons, List.length_nil, Try.ntmps60]; omega) (by kernel_rfl) rfl ?_
  refine Exec.reg ?_
  refine Run.o1 (by simp only [go_sem, e, hp, hn] <;> rfl) ?_
  refine Run.nil ?_
  refine Exec.opk 15 ?_
  refine OpenK.o1 (by simp only [go_sem, e, hp, hn] <;> rfl) ?_
  refine OpenK.o1 (by simp only [go_sem, e, hp, hn] <;> rfl) ?_
  refine OpenK.o1 (by simp only [go_sem, e, hp, hn] <;> rfl) ?_
  refine OpenK.o1 (by simp only [go_sem, e, hp, hn] <;> rfl) ?_
  refine OpenK.o1 (by simp only [go_sem, e, hp, hn] <;> rfl) ?_
  refine OpenK.o1 (by simp only [go_sem, e, hp, hn] <;> rfl) ?_
  refine OpenK.o1 (by simp only [go_sem, e, hp, hn] <;> rfl) ?_
  refine OpenK.o1 (by simp only [go_sem, e, hp, hn] <;> rfl) ?_
  refine OpenK.o1 (by simp only [go_sem, e, hp, hn] <;> rfl) ?_
  refine OpenK.o1 (by simp only [go_sem, e, hp, hn] <;> rfl) ?_
  refine OpenK.o1 (by simp only [go_sem, e, hp, hn]; (try simp (disch := omega) only [IntWalk.i64_in, IntWalk.u64_in, if_neg, if_pos])<;> rfl) ?_
  refine OpenK.cal (c_term_within _ _ _) (by simp only [go_sem]) (by simp only [go_sem, e, hp, hn] <;> rfl) (by exact ⟨by first | exact WkR.pure rfl | exact WkR.nil _ | exact WkR.int (by first | omega | (simp; done) | (simp; omega)), by first | exact WkR.pure rfl | exact WkR.nil _ | exact WkR.int (by first | omega | (simp; done) | (simp; omega)), by first | exact WkR.pure rfl | exact WkR.nil _ | exact WkR.int (by first | omega | (simp; done) | (simp; omega)), trivial⟩) (fr0) (by simp only [go_sem, e, hp, hn] <;> rfl) (by simp only [go_sem] <;> rfl) (by simp only [go_sem] <;> rfl) ?_
  refine OpenK.o1 (by simp only [go_sem, e, hp, hn] <;> rfl) ?_
  refine OpenK.nil (OpenE.fin (by decide +kernel) (by decide +kernel) ?_)
  exact Ends.fin [900] (rs := [.tmp 4]) rfl (by simp only [go_sem, e, hp, hn] <;> rfl) (by simp only [go_sem, e, hp, hn] <;> first | rfl | ((repeat' (first | with_reducible_and_instances rfl | refine st_eq ?_ ?_ ?_ | refine ret_eq ?_ | refine tup_eq ?_ | refine tm_eq ?_ ?_ | refine arr_eq ?_ | refine cells_eq ?_ | refine val_eq ?_ | refine ls_eq ?_ ?_ | refine own_eq ?_ ?_ | refine sl_eq ?_ | refine b_eq ?_ | (refine i_eq ?_; omega))); done))

set_option maxRecDepth 20000 in
/-- (*meterworks/term.row).status -/
theorem c_row_status (p : Sl × Int × Int) (d : Int) : Contract Try.prog 27 [.leaf (.d (.pt (encRow p))), .int d] (.int (stOf p.1 p.2.1 d)) [] := by
  refine con_of follows_mixed Try.func27 rfl (by simp only [List.length_cons, List.length_nil, Try.ntmps27]; omega) (by kernel_rfl) rfl ?_
  refine Exec.reg ?_
  refine Run.o ?_
  refine Run.nil ?_
  refine Exec.blk ?_
  refine Exec.reg ?_
  iterate 8 (refine Run.o ?_)
  refine Run.nil ?_
  refine Exec.cnd (by simp only [go_sem] <;> rfl) (fun hb5 => ?_) (fun hb5 => ?_)
  · skip
    have hr : stOf p.1 p.2.1 d = 0 := if_pos (of_decide_eq_true hb5)
    refine Exec.reg ?_
    refine Run.o1 (by simp only [go_sem, hr] <;> rfl) ?_
    refine Run.nil ?_
    refine BlkK.ret ?_
    exact Ends.fin [] (rs := [.tmp 4]) rfl (by simp only [go_sem, hr] <;> rfl) (by simp only [go_sem, hr] <;> first | rfl | ((repeat' (first | with_reducible_and_instances rfl | refine st_eq ?_ ?_ ?_ | refine ret_eq ?_ | refine tup_eq ?_ | refine tm_eq ?_ ?_ | refine arr_eq ?_ | refine cells_eq ?_ | refine val_eq ?_ | refine ls_eq ?_ ?_ | refine own_eq ?_ ?_ | refine sl_eq ?_ | refine b_eq ?_ | (refine i_eq ?_; omega))); done))
  · skip
    refine Exec.reg ?_
    iterate 7 (refine Run.o ?_)
    refine Run.nil ?_
    refine Exec.cnd (by simp only [go_sem] <;> rfl) (fun hb13 => ?_) (fun hb13 => ?_)
    · skip
      have hr : stOf p.1 p.2.1 d = 1 := by unfold stOf; rw [if_neg (of_decide_eq_false hb5), if_pos (of_decide_eq_true hb13)]
      refine Exec.reg ?_
      refine Run.o1 (by simp only [go_sem, hr] <;> rfl) ?_
      refine Run.nil ?_
      refine BlkK.ret ?_
      exact Ends.fin [] (rs := [.tmp 4]) rfl (by simp only [go_sem, hr] <;> rfl) (by simp only [go_sem, hr] <;> first | rfl | ((repeat' (first | with_reducible_and_instances rfl | refine st_eq ?_ ?_ ?_ | refine ret_eq ?_ | refine tup_eq ?_ | refine tm_eq ?_ ?_ | refine arr_eq ?_ | refine cells_eq ?_ | refine val_eq ?_ | refine ls_eq ?_ ?_ | refine own_eq ?_ ?_ | refine sl_eq ?_ | refine b_eq ?_ | (refine i_eq ?_; omega))); done))
    · skip
      have hr : stOf p.1 p.2.1 d = 2 := by unfold stOf; rw [if_neg (of_decide_eq_false hb5), if_neg (of_decide_eq_false hb13)]
      refine BlkK.nrm ?_
      refine Exec.reg ?_
      refine Run.o1 (by simp only [go_sem, hr] <;> rfl) ?_
      refine Run.nil ?_
      exact Ends.fin [] (rs := [.tmp 4]) rfl (by simp only [go_sem, hr] <;> rfl) (by simp only [go_sem, hr] <;> first | rfl | ((repeat' (first | with_reducible_and_instances rfl | refine st_eq ?_ ?_ ?_ | refine ret_eq ?_ | refine tup_eq ?_ | refine tm_eq ?_ ?_ | refine arr_eq ?_ | refine cells_eq ?_ | refine val_eq ?_ | refine ls_eq ?_ ?_ | refine own_eq ?_ ?_ | refine sl_eq ?_ | refine b_eq ?_ | (refine i_eq ?_; omega))); done))

set_option maxRecDepth 20000 in
/-- slices.IndexFunc[[]meterworks/term.row,meterworks/term.row] -/
theorem c_IndexFunc_row_l {g : FuncId} {ds : List D} (q : Sl × Int × Int → Bool) (hg : canCall Try.prog g = true) (hq : ∀ s, Contract Try.prog g (rowV s :: ds.map fun x => .leaf (.d x)) (.bool (q s)) []) (rows : Rws) (hl : rows.length ≤ 1000) : Con Try.prog 63 [.leaf (.own 900 0 rows.length rows.length), .leaf (.d (.fn g ds))] [(900, .arr 70 6 ((rows).map encRow))] (.ret (.int (idxI (rows.findIdx? q))) [(900, .arr 70 6 ((rows).map encRow))]) := by
  refine con_of follows_mixed Try.func63 rfl (by simp only [List.length_cons, List.length_nil, Try.ntmps63]; omega) (by kernel_rfl) rfl ?_
  refine Exec.reg ?_
  refine Run.o ?_
  refine Run.nil ?_
  refine Exec.assocS ?_
  refine Exec.reg ?_
  iterate 3 (refine Run.o ?_)
  refine Run.nil ?_
  refine Exec.blk ?_
  refine Exec.forA [0, 1, 7, 8] [900] (rows.length) (fun k => [.slot 8 (.int k)]) (fun k => (rows.take k).any q = false) (fun k => by simp only [go_sem] <;> rfl) (by simp only [go_sem] <;> rfl) ?_ (fun k hk hX => ?_)
  · rfl
  · skip
    refine Exec.reg ?_
    refine Run.o ?_
    refine Run.nil ?_
    refine Exec.cndS (by simp only [go_sem] <;> rfl) (fun hb9 => ?_) (fun hb9 => ?_)
    · skip
      have hlt := lt_of_dec hb9
      obtain ⟨s, hs⟩ := elem_of hb9
      refine Exec.skipS ?_
      refine Exec.blk ?_
      refine Exec.reg ?_
      iterate 2 (refine Run.o1 (by simp only [go_sem, hs] <;> rfl) ?_)
      refine Run.nil ?_
      refine Exec.reg ?_
      iterate 3 (refine Run.o1 (by simp only [go_sem, hs] <;> rfl) ?_)
      refine Run.o1 (by simp only [go_sem, hs]; (try simp (disch := omega) only [if_pos]); (try simp only [go_sem, hs])<;> rfl) ?_
      refine Run.o1 (by simp only [go_sem, hs] <;> rfl) ?_
      refine Run.calw (by simp only [go_sem] <;> rfl) (hq s) (by assumption) (by simp only [go_sem, hs] <;> rfl) (by simp only [go_sem, hs] <;> rfl) (by exact ⟨by first | exact WkR.pure rfl | exact WkR.nil _ | exact WkR.int (by omega), wkr_caps _ _ _⟩) (fr0) (by simp only [go_sem, hs] <;> rfl) ?_
      refine Run.nil ?_
      refine Exec.cnd (by simp only [go_sem, hs] <;> rfl) (fun hb16 => ?_) (fun hb16 => ?_)
      · skip
        have hr := find_at hX hs hb16
        refine Exec.reg ?_
        iterate 2 (refine Run.o1 (by simp only [go_sem, hs, hr, idxI] <;> rfl) ?_)
        refine Run.nil ?_
        refine BlkK.ret ?_
        refine ForK.ret ?_
        refine BlkK.ret ?_
        exact Ends.fin [900] (rs := [.tmp 4]) rfl (by simp only [go_sem, hs, hr, idxI] <;> rfl) (by simp only [go_sem, hs, hr, idxI] <;> first | rfl | ((repeat' (first | with_reducible_and_instances rfl | refine st_eq ?_ ?_ ?_ | refine ret_eq ?_ | refine tup_eq ?_ | refine tm_eq ?_ ?_ | refine arr_eq ?_ | refine cells_eq ?_ | refine val_eq ?_ | refine ls_eq ?_ ?_ | refine own_eq ?_ ?_ | refine sl_eq ?_ | refine b_eq ?_ | (refine i_eq ?_; omega))); done))
      · skip
        refine BlkK.nrm ?_
        refine Exec.reg1 ?_
        refine Run.o1 (by simp only [go_sem, hs]; (try simp (disch := omega) only [IntWalk.i64_in, IntWalk.u64_in, if_neg, if_pos])<;> rfl) ?_
        refine Run.o1 (by simp only [go_sem, hs] <;> rfl) ?_
        refine Run.nil ?_
        refine ForK.nxt ?_ ?_ ?_
        · omega
        · exact Ghost.kp [0, 1, 7, 8] [900] (by simp only [go_sem, hs]; first | ((repeat' (first | with_reducible_and_instances rfl | refine st_eq ?_ ?_ ?_ | refine ret_eq ?_ | refine tup_eq ?_ | refine tm_eq ?_ ?_ | refine arr_eq ?_ | refine cells_eq ?_ | refine val_eq ?_ | refine ls_eq ?_ ?_ | refine own_eq ?_ ?_ | refine sl_eq ?_ | refine b_eq ?_ | (refine i_eq ?_; omega))); done) | rfl)
        · exact any_step hX hs hb16
    · skip
      have hr := find_none hX (ge_of_dec hb9)
      refine Exec.exitS ?_
      refine ForK.ext ?_
      refine BlkK.hit ?_
      refine Exec.reg ?_
      refine Run.o1 (by simp only [go_sem, hr, idxI] <;> rfl) ?_
      refine Run.nil ?_
      exact Ends.fin [900] (rs := [.tmp 4]) rfl (by simp only [go_sem, hr, idxI] <;> rfl) (by simp only [go_sem, hr, idxI] <;> first | rfl | ((repeat' (first | with_reducible_and_instances rfl | refine st_eq ?_ ?_ ?_ | refine ret_eq ?_ | refine tup_eq ?_ | refine tm_eq ?_ ?_ | refine arr_eq ?_ | refine cells_eq ?_ | refine val_eq ?_ | refine ls_eq ?_ ?_ | refine own_eq ?_ ?_ | refine sl_eq ?_ | refine b_eq ?_ | (refine i_eq ?_; omega))); done))

set_option maxRecDepth 20000 in
/-- slices.IndexFunc[[]meterworks/term.row,meterworks/term.row] -/
theorem c_IndexFunc_row {g : FuncId} {ds : List D} (q : Sl × Int × Int → Bool) (hg : canCall Try.prog g = true) (hq : ∀ s, Contract Try.prog g (rowV s :: ds.map fun x => .leaf (.d x)) (.bool (q s)) []) (rows : Rws) (hl : rows.length ≤ 1000) : Contract Try.prog 63 [.leaf (.d (.sl 6 (rows.map encRow))), .leaf (.d (.fn g ds))] (.int (idxI (rows.findIdx? q))) [] := by
  refine con_of follows_mixed Try.func63 rfl (by simp only [List.length_cons, List.length_nil, Try.ntmps63]; omega) (by kernel_rfl) rfl ?_
  refine Exec.reg ?_
  refine Run.o ?_
  refine Run.nil ?_
  refine Exec.assocS ?_
  refine Exec.reg ?_
  iterate 3 (refine Run.o ?_)
  refine Run.nil ?_
  refine Exec.blk ?_
  refine Exec.forA [0, 1, 7, 8] [] (rows.length) (fun k => [.slot 8 (.int k)]) (fun k => (rows.take k).any q = false) (fun k => by simp only [go_sem] <;> rfl) (by simp only [go_sem] <;> rfl) ?_ (fun k hk hX => ?_)
  · rfl
  · skip
    refine Exec.reg ?_
    refine Run.o ?_
    refine Run.nil ?_
    refine Exec.cndS (by simp only [go_sem] <;> rfl) (fun hb9 => ?_) (fun hb9 => ?_)
    · skip
      have hlt := lt_of_dec hb9
      obtain ⟨s, hs⟩ := elem_of hb9
      refine Exec.skipS ?_
      refine Exec.blk ?_
      refine Exec.reg ?_
      iterate 2 (refine Run.o1 (by simp only [go_sem, hs] <;> rfl) ?_)
      refine Run.nil ?_
      refine Exec.reg ?_
      iterate 3 (refine Run.o1 (by simp only [go_sem, hs] <;> rfl) ?_)
      refine Run.o1 (by simp only [go_sem, hs]; (try simp (disch := omega) only [if_pos]); (try simp only [go_sem, hs])<;> rfl) ?_
      refine Run.o1 (by simp only [go_sem, hs] <;> rfl) ?_
      refine Run.calw (by simp only [go_sem] <;> rfl) (hq s) (by assumption) (by simp only [go_sem, hs] <;> rfl) (by simp only [go_sem, hs] <;> rfl) (by exact ⟨by first | exact WkR.pure rfl | exact WkR.nil _ | exact WkR.int (by omega), wkr_caps _ _ _⟩) (fr0) (by simp only [go_sem, hs] <;> rfl) ?_
      refine Run.nil ?_
      refine Exec.cnd (by simp only [go_sem, hs] <;> rfl) (fun hb16 => ?_) (fun hb16 => ?_)
      · skip
        have hr := find_at hX hs hb16
        refine Exec.reg ?_
        iterate 2 (refine Run.o1 (by simp only [go_sem, hs, hr, idxI] <;> rfl) ?_)
        refine Run.nil ?_
        refine BlkK.ret ?_
        refine ForK.ret ?_
        refine BlkK.ret ?_
        exact Ends.fin [] (rs := [.tmp 4]) rfl (by simp only [go_sem, hs, hr, idxI] <;> rfl) (by simp only [go_sem, hs, hr, idxI] <;> first | rfl | ((repeat' (first | with_reducible_and_instances rfl | refine st_eq ?_ ?_ ?_ | refine ret_eq ?_ | refine tup_eq ?_ | refine tm_eq ?_ ?_ | refine arr_eq ?_ | refine cells_eq ?_ | refine val_eq ?_ | refine ls_eq ?_ ?_ | refine own_eq ?_ ?_ | refine sl_eq ?_ | refine b_eq ?_ | (refine i_eq ?_; omega))); done))
      · skip
        refine BlkK.nrm ?_
        refine Exec.reg1 ?_
        refine Run.o1 (by simp only [go_sem, hs]; (try simp (disch := omega) only [IntWalk.i64_in, IntWalk.u64_in, if_neg, if_pos])<;> rfl) ?_
        refine Run.o1 (by simp only [go_sem, hs] <;> rfl) ?_
        refine Run.nil ?_
        refine ForK.nxt ?_ ?_ ?_
        · omega
        · exact Ghost.kp [0, 1, 7, 8] [] (by simp only [go_sem, hs]; first | ((repeat' (first | with_reducible_and_instances rfl | refine st_eq ?_ ?_ ?_ | refine ret_eq ?_ | refine tup_eq ?_ | refine tm_eq ?_ ?_ | refine arr_eq ?_ | refine cells_eq ?_ | refine val_eq ?_ | refine ls_eq ?_ ?_ | refine own_eq ?_ ?_ | refine sl_eq ?_ | refine b_eq ?_ | (refine i_eq ?_; omega))); done) | rfl)
        · exact any_step hX hs hb16
    · skip
      have hr := find_none hX (ge_of_dec hb9)
      refine Exec.exitS ?_
      refine ForK.ext ?_
      refine BlkK.hit ?_
      refine Exec.reg ?_
      refine Run.o1 (by simp only [go_sem, hr, idxI] <;> rfl) ?_
      refine Run.nil ?_
      exact Ends.fin [] (rs := [.tmp 4]) rfl (by simp only [go_sem, hr, idxI] <;> rfl) (by simp only [go_sem, hr, idxI] <;> first | rfl | ((repeat' (first | with_reducible_and_instances rfl | refine st_eq ?_ ?_ ?_ | refine ret_eq ?_ | refine tup_eq ?_ | refine tm_eq ?_ ?_ | refine arr_eq ?_ | refine cells_eq ?_ | refine val_eq ?_ | refine ls_eq ?_ ?_ | refine own_eq ?_ ?_ | refine sl_eq ?_ | refine b_eq ?_ | (refine i_eq ?_; omega))); done))

set_option maxRecDepth 20000 in
/-- (*meterworks/term.store).find_1 -/
theorem c_find_1 (p : Sl × Int × Int) (x : Int) : Contract Try.prog 64 [rowV p, .leaf (.d (.pt [.i x]))] (.bool (inB x p.1.fr p.1.to)) [] := by
  refine con_of follows_mixed Try.func64 rfl (by simp only [List.length_cons, List.length_nil, Try.ntmps64]; omega) (by kernel_rfl) rfl ?_
  refine Exec.reg ?_
  iterate 2 (refine Run.o ?_)
  refine Run.nil ?_
  refine Exec.reg ?_
  refine Run.frz 2 (by simp only [go_sem] <;> rfl) ?_
  refine Run.o ?_
  refine Run.c1 (c_row_has p x) (by simp only [go_sem] <;> rfl) (by simp only [go_sem] <;> rfl) ?_
  refine Run.o ?_
  refine Run.nil ?_
  exact Ends.fin [] (rs := [.tmp 3]) rfl (by simp only [go_sem] <;> rfl) (by simp only [go_sem] <;> first | rfl | ((repeat' (first | with_reducible_and_instances rfl | refine st_eq ?_ ?_ ?_ | refine ret_eq ?_ | refine tup_eq ?_ | refine tm_eq ?_ ?_ | refine arr_eq ?_ | refine cells_eq ?_ | refine val_eq ?_ | refine ls_eq ?_ ?_ | refine own_eq ?_ ?_ | refine sl_eq ?_ | refine b_eq ?_ | (refine i_eq ?_; omega))); done))

set_option maxRecDepth 20000 in
/-- (*meterworks/term.store).find -/
theorem c_find_f (s : Stk) (rows : Rws) (hl : rows.length ≤ 1000) (x : Int) : Con Try.prog 45 [.leaf (.fpt (rowsF s rows.length)), .int x] [(900, .arr 70 6 ((rows).map encRow))] (.ret (findV rows.length (rows.findIdx? (fun p => inB x p.1.fr p.1.to))) [(900, .arr 70 6 ((rows).map encRow))]) := by
  refine con_of follows_mixed Try.func45 rfl (by simp only [List.length_cons, List.length_nil, Try.ntmps45]; omega) (by kernel_rfl) rfl ?_
  refine Exec.reg ?_
  iterate 2 (refine Run.o ?_)
  refine Run.nil ?_
  refine Exec.reg ?_
  refine Run.frz 3 (by simp only [go_sem] <;> rfl) ?_
  iterate 5 (refine Run.o ?_)
  refine Run.lendA 900 900 (c_IndexFunc_row_l (g := 64) (ds := [.pt [.i x]]) (fun p => inB x p.1.fr p.1.to) (by simp only [go_sem]) (fun p => c_find_1 p x) rows hl) (Nat.le_refl _) (by simp only [go_sem]) (by simp only [go_sem] <;> rfl) (by simp only [go_sem] <;> rfl) (by simp only [go_sem] <;> rfl) (by exact ⟨by first | exact WkR.pure rfl | exact WkR.of rfl rfl | exact WkR.nil _ | exact WkR.int (by first | omega | (simp; done) | (simp; omega)), by first | exact WkR.pure rfl | exact WkR.of rfl rfl | exact WkR.nil _ | exact WkR.int (by first | omega | (simp; done) | (simp; omega)), trivial⟩) (by simp only [go_sem] <;> rfl) ?_
  refine Run.o ?_
  refine Run.nil ?_
  refine Exec.assocS ?_
  by_cases hrw : rows.findIdx? (fun p => inB x p.1.fr p.1.to) = none
  · skip
    refine Exec.reg ?_
    iterate 2 (refine Run.o1 (by simp only [go_sem, hrw, idxI] <;> rfl) ?_)
    refine Run.nil ?_
    refine Exec.cndS (by simp only [go_sem, hrw, idxI] <;> rfl) (fun hb13 => ?_) (fun hb13 => ?_)
    · skip
      refine Exec.assocS ?_
      refine Exec.reg ?_
      refine Run.o1 (by simp only [go_sem, hrw, idxI] <;> rfl) ?_
      refine Run.nil ?_
      refine Exec.retS ?_
      exact Ends.fin [900] (rs := [.tmp 4]) rfl (by simp only [go_sem, hrw, idxI] <;> rfl) (by simp only [go_sem, hrw, idxI] <;> first | rfl | ((repeat' (first | with_reducible_and_instances rfl | refine st_eq ?_ ?_ ?_ | refine ret_eq ?_ | refine tup_eq ?_ | refine tm_eq ?_ ?_ | refine arr_eq ?_ | refine cells_eq ?_ | refine val_eq ?_ | refine ls_eq ?_ ?_ | refine own_eq ?_ ?_ | refine sl_eq ?_ | refine b_eq ?_ | (refine i_eq ?_; omega))); done))
    · exact absurd hb13 (by simp)
  · skip
    obtain ⟨i, hi⟩ : ∃ i, rows.findIdx? (fun p => inB x p.1.fr p.1.to) = some i := Option.ne_none_iff_exists'.1 hrw
    have hil : i < rows.length := (List.findIdx?_eq_some_iff_getElem.1 hi).1
    have hri : rows[i]? = some (rows.getD i default) := by rw [List.getElem?_eq_getElem hil]; simp [List.getD, List.getElem?_eq_getElem hil]
    refine Exec.reg ?_
    iterate 2 (refine Run.o1 (by simp only [go_sem, hi, idxI, hri] <;> rfl) ?_)
    refine Run.nil ?_
    refine Exec.cndS (by simp only [go_sem, hi, idxI, hri] <;> rfl) (fun hb13 => ?_) (fun hb13 => ?_)
    · skip
      exact absurd (of_decide_eq_true hb13) (by omega)
    · skip
      refine Exec.skipS ?_
      refine Exec.reg ?_
      iterate 5 (refine Run.o1 (by simp only [go_sem, hi, idxI, hri] <;> rfl) ?_)
      refine Run.o1 (by simp only [go_sem, hi, idxI, hri]; (try simp (disch := omega) only [if_pos]); (try simp only [go_sem, hi, idxI, hri])<;> rfl) ?_
      refine Run.o1 (by simp only [go_sem, hi, idxI, hri] <;> rfl) ?_
      refine Run.nil ?_
      exact Ends.fin [900] (rs := [.tmp 4]) rfl (by simp only [go_sem, hi, idxI, hri] <;> rfl) (by simp only [go_sem, hi, idxI, hri] <;> first | rfl | ((repeat' (first | with_reducible_and_instances rfl | refine st_eq ?_ ?_ ?_ | refine ret_eq ?_ | refine tup_eq ?_ | refine tm_eq ?_ ?_ | refine arr_eq ?_ | refine cells_eq ?_ | refine val_eq ?_ | refine ls_eq ?_ ?_ | refine own_eq ?_ ?_ | refine sl_eq ?_ | refine b_eq ?_ | (refine i_eq ?_; omega))); done))

set_option maxRecDepth 20000 in
/-- (*meterworks/term.store).find -/
theorem c_find_c (s : Stk) (rows : Rws) (hl : rows.length ≤ 1000) (bs : List Br) (x : Int) : Con Try.prog 45 [.leaf (.ptr 902 0), .int x] [(902, .cells (rowsC s rows.length)), (900, .arr 70 6 ((rows).map encRow)), (901, bkM bs)] (.ret (findV rows.length (rows.findIdx? (fun p => inB x p.1.fr p.1.to))) [(902, .cells (rowsC s rows.length)), (900, .arr 70 6 ((rows).map encRow)), (901, bkM bs)]) := by
  refine con_of follows_mixed Try.func45 rfl (by simp only [List.length_cons, List.length_nil, Try.ntmps45]; omega) (by kernel_rfl) rfl ?_
  refine Exec.reg ?_
  iterate 2 (refine Run.o ?_)
  refine Run.nil ?_
  refine Exec.reg ?_
  refine Run.frz 3 (by simp only [go_sem] <;> rfl) ?_
  iterate 5 (refine Run.o ?_)
  refine Run.lendA 900 900 (c_IndexFunc_row_l (g := 64) (ds := [.pt [.i x]]) (fun p => inB x p.1.fr p.1.to) (by simp only [go_sem]) (fun p => c_find_1 p x) rows hl) (Nat.le_refl _) (by simp only [go_sem]) (by simp only [go_sem] <;> rfl) (by simp only [go_sem] <;> rfl) (by simp only [go_sem] <;> rfl) (by exact ⟨by first | exact WkR.pure rfl | exact WkR.of rfl rfl | exact WkR.nil _ | exact WkR.int (by first | omega | (simp; done) | (simp; omega)), by first | exact WkR.pure rfl | exact WkR.of rfl rfl | exact WkR.nil _ | exact WkR.int (by first | omega | (simp; done) | (simp; omega)), trivial⟩) (by simp only [go_sem] <;> rfl) ?_
  refine Run.o ?_
  refine Run.nil ?_
  refine Exec.assocS ?_
  by_cases hrw : rows.findIdx? (fun p => inB x p.1.fr p.1.to) = none
  · skip
    refine Exec.reg ?_
    iterate 2 (refine Run.o1 (by simp only [go_sem, hrw, idxI] <;> rfl) ?_)
    refine Run.nil ?_
    refine Exec.cndS (by simp only [go_sem, hrw, idxI] <;> rfl) (fun hb13 => ?_) (fun hb13 => ?_)
    · skip
      refine Exec.assocS ?_
      refine Exec.reg ?_
      refine Run.o1 (by simp only [go_sem, hrw, idxI] <;> rfl) ?_
      refine Run.nil ?_
      refine Exec.retS ?_
      exact Ends.fin [902, 900, 901] (rs := [.tmp 4]) rfl (by simp only [go_sem, hrw, idxI] <;> rfl) (by simp only [go_sem, hrw, idxI] <;> first | rfl | ((repeat' (first | with_reducible_and_instances rfl | refine st_eq ?_ ?_ ?_ | refine ret_eq ?_ | refine tup_eq ?_ | refine tm_eq ?_ ?_ | refine arr_eq ?_ | refine cells_eq ?_ | refine val_eq ?_ | refine ls_eq ?_ ?_ | refine own_eq ?_ ?_ | refine sl_eq ?_ | refine b_eq ?_ | (refine i_eq ?_; omega))); done))
    · exact absurd hb13 (by simp)
  · skip
    obtain ⟨i, hi⟩ : ∃ i, rows.findIdx? (fun p => inB x p.1.fr p.1.to) = some i := Option.ne_none_iff_exists'.1 hrw
    have hil : i < rows.length := (List.findIdx?_eq_some_iff_getElem.1 hi).1
    have hri : rows[i]? = some (rows.getD i default) := by rw [List.getElem?_eq_getElem hil]; simp [List.getD, List.getElem?_eq_getElem hil]
    refine Exec.reg ?_
    iterate 2 (refine Run.o1 (by simp only [go_sem, hi, idxI, hri] <;> rfl) ?_)
    refine Run.nil ?_
    refine Exec.cndS (by simp only [go_sem, hi, idxI, hri] <;> rfl) (fun hb13 => ?_) (fun hb13 => ?_)
    · skip
      exact absurd (of_decide_eq_true hb13) (by omega)
    · skip
      refine Exec.skipS ?_
      refine Exec.reg ?_
      iterate 5 (refine Run.o1 (by simp only [go_sem, hi, idxI, hri] <;> rfl) ?_)
      refine Run.o1 (by simp only [go_sem, hi, idxI, hri]; (try simp (disch := omega) only [if_pos]); (try simp only [go_sem, hi, idxI, hri])<;> rfl) ?_
      refine Run.o1 (by simp only [go_sem, hi, idxI, hri] <;> rfl) ?_
      refine Run.nil ?_
      exact Ends.fin [902, 900, 901] (rs := [.tmp 4]) rfl (by simp only [go_sem, hi, idxI, hri] <;> rfl) (by simp only [go_sem, hi, idxI, hri] <;> first | rfl | ((repeat' (first | with_reducible_and_instances rfl | refine st_eq ?_ ?_ ?_ | refine ret_eq ?_ | refine tup_eq ?_ | refine tm_eq ?_ ?_ | refine arr_eq ?_ | refine cells_eq ?_ | refine val_eq ?_ | refine ls_eq ?_ ?_ | refine own_eq ?_ ?_ | refine sl_eq ?_ | refine b_eq ?_ | (refine i_eq ?_; omega))); done))

set_option maxRecDepth 20000 in
/-- (*meterworks/term.store).find -/
theorem c_find_p (s : Stk) (rows : Rws) (hl : rows.length ≤ 1000) (x : Int) : Contract Try.prog 45 [.leaf (.d (.pt [csD s.cs, slsD s.rs, psD s.ps, bsD s.bs, .sl 6 (rows.map encRow)])), .int x] (findD rows (rows.findIdx? (fun p => inB x p.1.fr p.1.to))) [] := by
  refine con_of follows_mixed Try.func45 rfl (by simp only [List.length_cons, List.length_nil, Try.ntmps45]; omega) (by kernel_rfl) rfl ?_
  refine Exec.reg ?_
  iterate 2 (refine Run.o ?_)
  refine Run.nil ?_
  refine Exec.reg ?_
  refine Run.frz 3 (by simp only [go_sem] <;> rfl) ?_
  iterate 5 (refine Run.o ?_)
  refine Run.c1 (c_IndexFunc_row (g := 64) (ds := [.pt [.i x]]) (fun p => inB x p.1.fr p.1.to) (by simp only [go_sem]) (fun p => c_find_1 p x) rows hl) (by simp only [go_sem] <;> rfl) (by simp only [go_sem] <;> rfl) ?_
  refine Run.o ?_
  refine Run.nil ?_
  refine Exec.assocS ?_
  by_cases hrw : rows.findIdx? (fun p => inB x p.1.fr p.1.to) = none
  · skip
    refine Exec.reg ?_
    iterate 2 (refine Run.o1 (by simp only [go_sem, hrw, idxI, findD] <;> rfl) ?_)
    refine Run.nil ?_
    refine Exec.cndS (by simp only [go_sem, hrw, idxI, findD] <;> rfl) (fun hb13 => ?_) (fun hb13 => ?_)
    · skip
      refine Exec.assocS ?_
      refine Exec.reg ?_
      refine Run.o1 (by simp only [go_sem, hrw, idxI, findD] <;> rfl) ?_
      refine Run.nil ?_
      refine Exec.retS ?_
      exact Ends.fin [] (rs := [.tmp 4]) rfl (by simp only [go_sem, hrw, idxI, findD] <;> rfl) (by simp only [go_sem, hrw, idxI, findD] <;> first | rfl | ((repeat' (first | with_reducible_and_instances rfl | refine st_eq ?_ ?_ ?_ | refine ret_eq ?_ | refine tup_eq ?_ | refine tm_eq ?_ ?_ | refine arr_eq ?_ | refine cells_eq ?_ | refine val_eq ?_ | refine ls_eq ?_ ?_ | refine own_eq ?_ ?_ | refine sl_eq ?_ | refine b_eq ?_ | (refine i_eq ?_; omega))); done))
    · exact absurd hb13 (by simp)
  · skip
    obtain ⟨i, hi⟩ : ∃ i, rows.findIdx? (fun p => inB x p.1.fr p.1.to) = some i := Option.ne_none_iff_exists'.1 hrw
    have hil : i < rows.length := (List.findIdx?_eq_some_iff_getElem.1 hi).1
    have hri : rows[i]? = some (rows.getD i default) := by rw [List.getElem?_eq_getElem hil]; simp [List.getD, List.getElem?_eq_getElem hil]
    refine Exec.reg ?_
    iterate 2 (refine Run.o1 (by simp only [go_sem, hi, idxI, hri, findD] <;> rfl) ?_)
    refine Run.nil ?_
    refine Exec.cndS (by simp only [go_sem, hi, idxI, hri, findD] <;> rfl) (fun hb13 => ?_) (fun hb13 => ?_)
    · skip
      exact absurd (of_decide_eq_true hb13) (by omega)
    · skip
      refine Exec.skipS ?_
      refine Exec.reg ?_
      iterate 5 (refine Run.o1 (by simp only [go_sem, hi, idxI, hri, findD] <;> rfl) ?_)
      refine Run.o1 (by simp only [go_sem, hi, idxI, hri, findD]; (try simp (disch := omega) only [if_pos]); (try simp only [go_sem, hi, idxI, hri, findD])<;> rfl) ?_
      refine Run.o1 (by simp only [go_sem, hi, idxI, hri, findD] <;> rfl) ?_
      refine Run.nil ?_
      exact Ends.fin [] (rs := [.tmp 4]) rfl (by simp only [go_sem, hi, idxI, hri, findD] <;> rfl) (by simp only [go_sem, hi, idxI, hri, findD] <;> first | rfl | ((repeat' (first | with_reducible_and_instances rfl | refine st_eq ?_ ?_ ?_ | refine ret_eq ?_ | refine tup_eq ?_ | refine tm_eq ?_ ?_ | refine arr_eq ?_ | refine cells_eq ?_ | refine val_eq ?_ | refine ls_eq ?_ ?_ | refine own_eq ?_ ?_ | refine sl_eq ?_ | refine b_eq ?_ | (refine i_eq ?_; omega))); done))

set_option maxRecDepth 20000 in
/-- (*meterworks/term.store).isBroken -/
theorem c_isBroken (bs : List Br) (x d : Int) : Con Try.prog 34 [.leaf (.fpt mapF), .int x, .int d] [(901, bkM bs)] (.ret (.bool (isBk bs x d)) [(901, bkM bs)]) := by
  have hm := map_get x bs
  have hm := map_get x bs
  cases hb : bs.find? (fun b => b.no == x)
  · skip
    have hr : isBk bs x d = false := by unfold isBk; rw [hb]
    rw [hb] at hm
    simp only [Option.map_none] at hm
    refine con_of follows_mixed Try.func34 rfl (by simp only [List.length_cons, List.length_nil, Try.ntmps34]; omega) (by kernel_rfl) rfl ?_
    refine Exec.reg ?_
    refine Run.o1 (by simp only [go_sem, hr, hm] <;> rfl) ?_
    refine Run.nil ?_
    refine Exec.reg ?_
    iterate 11 (refine Run.o1 (by simp only [go_sem, hr, hm] <;> rfl) ?_)
    refine Run.nil ?_
    refine Exec.reg ?_
    iterate 2 (refine Run.o1 (by simp only [go_sem, hr, hm] <;> rfl) ?_)
    refine Run.gop (by simp only [go_sem] <;> rfl) (by simp only [go_sem, hr, hm] <;> rfl) (by simp only [go_sem] <;> rfl) ?_
    refine Run.gop (by simp only [go_sem] <;> rfl) (by simp only [go_sem, hr, hm] <;> rfl) (by simp only [go_sem] <;> rfl) ?_
    refine Run.gop (by simp only [go_sem] <;> rfl) (by simp only [go_sem, hr, hm] <;> rfl) (by simp only [go_sem] <;> rfl) ?_
    iterate 2 (refine Run.o1 (by simp only [go_sem, hr, hm] <;> rfl) ?_)
    refine Run.nil ?_
    exact Ends.fin [901] (rs := [.tmp 6]) rfl (by simp only [go_sem, hr, hm] <;> rfl) (by simp only [go_sem, hr, hm] <;> first | rfl | ((repeat' (first | with_reducible_and_instances rfl | refine st_eq ?_ ?_ ?_ | refine ret_eq ?_ | refine tup_eq ?_ | refine tm_eq ?_ ?_ | refine arr_eq ?_ | refine cells_eq ?_ | refine val_eq ?_ | refine ls_eq ?_ ?_ | refine own_eq ?_ ?_ | refine sl_eq ?_ | refine b_eq ?_ | (refine i_eq ?_; omega))); done))
  · skip
    rename_i b
    have hr : isBk bs x d = decide (b.day ≤ d) := by unfold isBk; rw [hb]
    rw [hb] at hm
    simp only [Option.map_some] at hm
    refine con_of follows_mixed Try.func34 rfl (by simp only [List.length_cons, List.length_nil, Try.ntmps34]; omega) (by kernel_rfl) rfl ?_
    refine Exec.reg ?_
    refine Run.o1 (by simp only [go_sem, hr, hm] <;> rfl) ?_
    refine Run.nil ?_
    refine Exec.reg ?_
    iterate 11 (refine Run.o1 (by simp only [go_sem, hr, hm] <;> rfl) ?_)
    refine Run.nil ?_
    refine Exec.reg ?_
    iterate 2 (refine Run.o1 (by simp only [go_sem, hr, hm] <;> rfl) ?_)
    refine Run.gop (by simp only [go_sem] <;> rfl) (by simp only [go_sem, hr, hm] <;> rfl) (by simp only [go_sem] <;> rfl) ?_
    refine Run.gop (by simp only [go_sem] <;> rfl) (by simp only [go_sem, hr, hm] <;> rfl) (by simp only [go_sem] <;> rfl) ?_
    refine Run.gop (by simp only [go_sem] <;> rfl) (by simp only [go_sem, hr, hm] <;> rfl) (by simp only [go_sem] <;> rfl) ?_
    iterate 2 (refine Run.o1 (by simp only [go_sem, hr, hm] <;> rfl) ?_)
    refine Run.nil ?_
    exact Ends.fin [901] (rs := [.tmp 6]) rfl (by simp only [go_sem, hr, hm] <;> rfl) (by simp only [go_sem, hr, hm] <;> first | rfl | ((repeat' (first | with_reducible_and_instances rfl | refine st_eq ?_ ?_ ?_ | refine ret_eq ?_ | refine tup_eq ?_ | refine tm_eq ?_ ?_ | refine arr_eq ?_ | refine cells_eq ?_ | refine val_eq ?_ | refine ls_eq ?_ ?_ | refine own_eq ?_ ?_ | refine sl_eq ?_ | refine b_eq ?_ | (refine i_eq ?_; omega))); done))

end Go.Mw
namespace Go.Mw
open Go.Proofs
open Go.Te
theorem bk_at {bs : List Br} {i : Nat} {p : Value × Bool × List AL} (h : (bs.map encBk)[i]? = some p) : ∃ b, bs[i]? = some b ∧ p = encBk b := by
  rw [List.getElem?_map] at h
  cases hb : bs[i]? with
  | none => simp [hb] at h
  | some b => exact ⟨b, rfl, by simpa [hb] using h.symm⟩
@[go_sem ↓] theorem ren_bk2 (r : Nat → Nat) (n : Nat) (bs : List Br) : AO.ren r ((n, AO.map (bs.map encBk)) : Nat × AO).2 = .map (bs.map encBk) := ren_bk r bs
theorem inn_bk (ns : List Nat) (bs : List Br) : (AO.map (bs.map encBk)).inn ns = true := by
  show (bs.map encBk).all _ = true
  rw [List.all_eq_true]
  intro p hp
  obtain ⟨b, _, rfl⟩ := List.mem_map.1 hp
  rfl
theorem nodup_find {bs : List Br} (h : (bs.map (·.no)).Nodup) {i : Nat} {b : Br} (hb : bs[i]? = some b) : bs.find? (fun c => c.no == b.no) = some b := by
  induction bs generalizing i with
  | nil => simp at hb
  | cons c bs ih =>
    simp only [List.map_cons, List.nodup_cons] at h
    rw [List.find?_cons]
    cases i with
    | zero => simp at hb; subst hb; simp
    | succ i =>
      have hb : bs[i]? = some b := by simpa using hb
      have hne : (c.no == b.no) = false := by
        simp only [beq_eq_false_iff_ne]
        intro e
        exact h.1 (e ▸ List.mem_map.2 ⟨b, List.mem_of_getElem? hb, rfl⟩)
      rw [hne]
      exact ih h.2 hb
theorem isBk_at {bs : List Br} (h : (bs.map (·.no)).Nodup) {i : Nat} {b : Br} (hb : bs[i]? = some b) (d : Int) : isBk bs b.no d = decide (b.day ≤ d) := by
  unfold isBk; rw [nodup_find h hb]
/-- The entries that count, among those that have come. -/
def seenN (bs : List Br) (r : Sl) (d : Int) (t : List Nat) : Nat := t.countP fun i => inB (bs.getD i default).no r.fr r.to && decide ((bs.getD i default).day ≤ d)
theorem seen_nil (bs : List Br) (r : Sl) (d : Int) : seenN bs r d [] = 0 := rfl
theorem seen_snoc {bs : List Br} {r : Sl} {d : Int} {t : List Nat} {i : Nat} {b : Br} (hb : bs[i]? = some b) : seenN bs r d (t ++ [i]) = seenN bs r d t + (if (inB b.no r.fr r.to && decide (b.day ≤ d)) = true then 1 else 0) := by
  unfold seenN
  rw [List.countP_append, List.countP_singleton, getD_of hb]
theorem seen_le (bs : List Br) (r : Sl) (d : Int) (t : List Nat) : seenN bs r d t ≤ t.length := List.countP_le_length
theorem seen_all {bs : List Br} {r : Sl} {d : Int} {t : List Nat} (h1 : t.Nodup) (h2 : ∀ i ∈ t, i < bs.length) (h3 : ∀ i, i < bs.length → i ∈ t) : seenN bs r d t = cntBk bs r d := by
  have hp : t.Perm (List.range bs.length) := (List.perm_ext_iff_of_nodup h1 List.nodup_range).2 fun i => by
    rw [List.mem_range]
    exact ⟨h2 i, h3 i⟩
  unfold seenN cntBk
  rw [hp.countP_eq]
  have e : bs = (List.range bs.length).map fun i => bs.getD i default := by
    apply List.ext_getElem?
    intro i
    rw [List.getElem?_map]
    by_cases hi : i < bs.length
    · rw [List.getElem?_range hi, List.getElem?_eq_getElem hi]
      simp [List.getD, List.getElem?_eq_getElem hi]
    · rw [List.getElem?_eq_none (by omega), List.getElem?_eq_none (by simp; omega)]; rfl
  conv => rhs; rw [e]
  rw [List.countP_map]
  rfl
theorem nodup_bnd {t : List Nat} {n : Nat} (h1 : t.Nodup) (h2 : ∀ i ∈ t, i < n) : t.length ≤ n := by
  have := h1.length_le_of_subset (l₂ := List.range n) fun i hi => List.mem_range.2 (h2 i hi)
  simpa using this
theorem nodup_snoc {t : List Nat} {i : Nat} (h1 : t.Nodup) (h2 : i ∉ t) : (t ++ [i]).Nodup := by
  rw [List.nodup_append]
  refine ⟨h1, by simp, ?_⟩
  intro a ha b hb e
  have : b = i := by simpa using hb
  subst this; subst e
  exact h2 ha
set_option maxRecDepth 20000 in
set_option maxHeartbeats 4000000 in
/-- (*meterworks/term.store).brokenOf -/
theorem c_brokenOf (bs : List Br) (hn : (bs.map (·.no)).Nodup) (hl : bs.length ≤ 100) (p : Sl × Int × Int) (d : Int) : Con Try.prog 26 [.leaf (.fpt mapF), .leaf (.d (.pt (encRow p))), .int d] [(901, bkM bs)] (.ret (.int (cntBk bs p.1 d : Nat)) [(901, bkM bs)]) := by
  refine con_of follows_mixed Try.func26 rfl (by simp only [List.length_cons, List.length_nil, Try.ntmps26]; omega) (by kernel_rfl) rfl ?_
  refine Exec.reg ?_
  refine Run.o ?_
  refine Run.nil ?_
  refine Exec.assocS ?_
  refine Exec.reg ?_
  iterate 5 (refine Run.o ?_)
  refine Run.nil ?_
  refine Exec.blk ?_
  refine Exec.whl [0, 1, 2, 6, 12] [12, 901] (fun (t : List Nat) => [.slot 6 (.int (seenN bs p.1 d t : Nat)), .obj 12 (.iter [.obj 901] bs.length t bs.length)]) (fun t => t.Nodup ∧ ∀ i ∈ t, i < bs.length) (fun t => bs.length - t.length) ([]) (fun t => by simp only [go_sem] <;> rfl) (by simp only [go_sem, seen_nil, Int.natCast_zero, List.length_map] <;> rfl) ?_ (fun t hX => ?_)
  · exact ⟨List.nodup_nil, by simp⟩
  by_cases hall : ∀ i, i < bs.length → i ∈ t
  · skip
    refine Exec.reg ?_
    first
    | refine Run.nxtF (by simp only [go_sem] <;> rfl) (by simp only [go_sem] <;> rfl) (by simp only [go_sem] <;> rfl) (by simp) (by simp) (bk_keys bs) (by simpa using hall) (by simp only [go_sem] <;> rfl) ?_
    | (refine Run.nxtT (by simp only [go_sem] <;> rfl) (by simp only [go_sem] <;> rfl) (by simp only [go_sem] <;> rfl) (by simp) (by simp) (bk_keys bs) (by simpa using hall) (fun i q hq hi => ?_)
       obtain ⟨b, hb, rfl⟩ := bk_at hq)
    refine Run.o ?_
    refine Run.nil ?_
    refine Exec.cndS (by simp only [go_sem] <;> rfl) (fun hb14 => ?_) (fun hb14 => ?_)
    · exact absurd hb14 (by simp)
    have hend := seen_all (r := p.1) (d := d) hX.1 hX.2 hall
    refine Exec.exitS ?_
    refine WhlK.ext ?_
    refine BlkK.hit ?_
    refine Exec.reg ?_
    iterate 2 (refine Run.o ?_)
    refine Run.nil ?_
    exact Ends.fin [901] (rs := [.tmp 6]) rfl (by simp only [go_sem, hend] <;> rfl) (by simp only [go_sem, hend] <;> first | rfl | ((repeat' (first | with_reducible_and_instances rfl | refine st_eq ?_ ?_ ?_ | refine ret_eq ?_ | refine tup_eq ?_ | refine tm_eq ?_ ?_ | refine arr_eq ?_ | refine cells_eq ?_ | refine val_eq ?_ | refine ls_eq ?_ ?_ | refine own_eq ?_ ?_ | refine sl_eq ?_ | refine b_eq ?_ | (refine i_eq ?_; omega))); done))
  refine Exec.reg ?_
  first
  | refine Run.nxtF (by simp only [go_sem] <;> rfl) (by simp only [go_sem] <;> rfl) (by simp only [go_sem] <;> rfl) (by simp) (by simp) (bk_keys bs) (by simpa using hall) (by simp only [go_sem] <;> rfl) ?_
  | (refine Run.nxtT (by simp only [go_sem] <;> rfl) (by simp only [go_sem] <;> rfl) (by simp only [go_sem] <;> rfl) (by simp) (by simp) (bk_keys bs) (by simpa using hall) (fun i q hq hi => ?_)
     obtain ⟨b, hb, rfl⟩ := bk_at hq)
  refine Run.o ?_
  refine Run.nil ?_
  refine Exec.cndS (by simp only [go_sem] <;> rfl) (fun hb14 => ?_) (fun hb14 => ?_)
  · skip
    have hgl : (t ++ [i]).getLast? = some i := by simp
    have hk1 : (Value.int IntKind.i64 b.no).oneCell' = true := rfl
    have hib := isBk_at hn hb d
    have hsn := seen_snoc (r := p.1) (d := d) (t := t) hb
    have hsl := seen_le bs p.1 d t
    have hil : i < bs.length := (List.getElem?_eq_some_iff.1 hb).1
    have hnd := nodup_snoc hX.1 hi
    have hbn : ∀ j ∈ t ++ [i], j < bs.length := by
      intro j hj
      rcases List.mem_append.1 hj with hj | hj
      · exact hX.2 j hj
      · have : j = i := by simpa using hj
        omega
    have hlb := nodup_bnd hnd hbn
    have hlb2 : (t ++ [i]).length = t.length + 1 := by simp
    refine Exec.skipS ?_
    refine Exec.blk1 ?_
    refine Exec.reg ?_
    iterate 2 (refine Run.o1 (by simp only [go_sem, hgl, hk1, hb, hib, List.length_map] <;> rfl) ?_)
    refine Run.o ?_
    refine Run.nil ?_
    by_cases hin : inB b.no p.1.fr p.1.to = true
    · skip
      refine Exec.reg ?_
      iterate 2 (refine Run.o ?_)
      refine Run.c1 (c_row_has p b.no) (by simp only [go_sem, hgl, hk1, hb, hib, List.length_map, hin] <;> rfl) (by simp only [go_sem, hgl, hk1, hb, hib, List.length_map, hin] <;> rfl) ?_
      refine Run.o1 (by simp only [go_sem, hgl, hk1, hb, hib, List.length_map, hin] <;> rfl) ?_
      iterate 3 (refine Run.y1 (by simp only [go_sem] <;> rfl) ?_)
      refine Run.lendG [(901, 901)] (by simp only [go_sem] <;> rfl) (c_isBroken bs b.no d) (by simp only [go_sem]) (.inl ⟨[], by simp only [go_sem] <;> rfl, rfl⟩) (by simp only [go_sem, hib] <;> rfl) (by exact ⟨by first | exact WkR.pure rfl | exact WkR.of rfl rfl | exact WkR.nil _ | exact WkR.int (by first | omega | (simp; done) | (simp; omega)) | exact WkR.fptW rfl ⟨by first | exact .inl rfl | exact .inr rfl, by first | exact .inl rfl | exact .inr rfl, by first | exact .inl rfl | exact .inr rfl, by first | exact .inl rfl | exact .inr rfl, by first | exact .inl rfl | exact .inr rfl, by first | exact .inl rfl | exact .inr rfl, trivial⟩, by first | exact WkR.pure rfl | exact WkR.of rfl rfl | exact WkR.nil _ | exact WkR.int (by first | omega | (simp; done) | (simp; omega)) | exact WkR.fptW rfl ⟨by first | exact .inl rfl | exact .inr rfl, by first | exact .inl rfl | exact .inr rfl, by first | exact .inl rfl | exact .inr rfl, by first | exact .inl rfl | exact .inr rfl, by first | exact .inl rfl | exact .inr rfl, by first | exact .inl rfl | exact .inr rfl, trivial⟩, by first | exact WkR.pure rfl | exact WkR.of rfl rfl | exact WkR.nil _ | exact WkR.int (by first | omega | (simp; done) | (simp; omega)) | exact WkR.fptW rfl ⟨by first | exact .inl rfl | exact .inr rfl, by first | exact .inl rfl | exact .inr rfl, by first | exact .inl rfl | exact .inr rfl, by first | exact .inl rfl | exact .inr rfl, by first | exact .inl rfl | exact .inr rfl, by first | exact .inl rfl | exact .inr rfl, trivial⟩, trivial⟩) rfl (by decide) (by first | rfl | (simp only [List.all_cons, List.all_nil, inn_bk, Bool.and_true, Bool.true_and]; done) | (simp only [List.all_cons, List.all_nil, inn_bk, Bool.and_true, Bool.true_and] <;> rfl)) (by intro p hp n hn; simp only [List.mem_cons, List.not_mem_nil, or_false] at hp; rcases hp with rfl <;> (simp [look] at hn; subst hn; simp only [go_sem, hib] <;> rfl)) (by intro p hp; simp only [List.mem_cons, List.not_mem_nil, or_false] at hp; rcases hp with rfl <;> (first | exact ⟨_, rfl, back_refl _⟩ | exact ⟨_, rfl, _, rfl, by simp⟩ | exact ⟨_, rfl, _, rfl⟩)) (by intro p hp hn; simp only [List.mem_cons, List.not_mem_nil, or_false] at hp; rcases hp with rfl <;> simp [look] at hn) (by simp only [go_sem, hib] <;> rfl) ?_
      refine Run.o1 (by simp only [go_sem, hgl, hk1, hb, hib, List.length_map, hin] <;> rfl) ?_
      refine Run.nil ?_
      refine Exec.cnd (by simp only [go_sem, hgl, hk1, hb, hib, List.length_map, hin] <;> rfl) (fun hb25 => ?_) (fun hb25 => ?_)
      · skip
        have hpp : (inB b.no p.1.fr p.1.to && decide (b.day ≤ d)) = true := by rw [hin, Bool.true_and]; simpa using hb25
        rw [if_pos hpp] at hsn
        refine Exec.reg1 ?_
        refine Run.o ?_
        refine Run.o1 (by simp only [go_sem, hgl, hk1, hb, hib, List.length_map, hin, hsn]; (try simp (disch := omega) only [IntWalk.i64_in, IntWalk.u64_in, if_neg, if_pos])<;> rfl) ?_
        refine Run.o ?_
        refine Run.nil ?_
        refine Blk1K.nrm ?_
        refine WhlK.nxt ((t ++ [i])) ?_ ?_ ?_
        · omega
        · exact ⟨hnd, hbn⟩
        · exact Ghost.kp [0, 1, 2, 6, 12] [12, 901] (by simp only [go_sem, hgl, hk1, hb, hib, List.length_map, hin, hsn]; first | ((repeat' (first | with_reducible_and_instances rfl | refine st_eq ?_ ?_ ?_ | refine ret_eq ?_ | refine tup_eq ?_ | refine tm_eq ?_ ?_ | refine arr_eq ?_ | refine cells_eq ?_ | refine val_eq ?_ | refine ls_eq ?_ ?_ | refine own_eq ?_ ?_ | refine sl_eq ?_ | refine b_eq ?_ | (refine i_eq ?_; omega))); (all_goals (first | omega | (simp; omega)))) | rfl)
      have hpp : (inB b.no p.1.fr p.1.to && decide (b.day ≤ d)) = false := by rw [hin, Bool.true_and]; simpa using hb25
      rw [if_neg (by rw [hpp]; decide)] at hsn
      refine Blk1K.nrm ?_
      refine WhlK.nxt ((t ++ [i])) ?_ ?_ ?_
      · omega
      · exact ⟨hnd, hbn⟩
      · exact Ghost.kp [0, 1, 2, 6, 12] [12, 901] (by simp only [go_sem, hgl, hk1, hb, hib, List.length_map, hin, hsn]; first | ((repeat' (first | with_reducible_and_instances rfl | refine st_eq ?_ ?_ ?_ | refine ret_eq ?_ | refine tup_eq ?_ | refine tm_eq ?_ ?_ | refine arr_eq ?_ | refine cells_eq ?_ | refine val_eq ?_ | refine ls_eq ?_ ?_ | refine own_eq ?_ ?_ | refine sl_eq ?_ | refine b_eq ?_ | (refine i_eq ?_; omega))); done) | rfl)
    have hin : inB b.no p.1.fr p.1.to = false := by simpa using hin
    refine Exec.reg ?_
    iterate 2 (refine Run.o ?_)
    refine Run.c1 (c_row_has p b.no) (by simp only [go_sem, hgl, hk1, hb, hib, List.length_map, hin] <;> rfl) (by simp only [go_sem, hgl, hk1, hb, hib, List.length_map, hin] <;> rfl) ?_
    refine Run.o1 (by simp only [go_sem, hgl, hk1, hb, hib, List.length_map, hin] <;> rfl) ?_
    iterate 4 (refine Run.s ?_)
    refine Run.o1 (by simp only [go_sem, hgl, hk1, hb, hib, List.length_map, hin] <;> rfl) ?_
    refine Run.nil ?_
    refine Exec.cnd (by simp only [go_sem, hgl, hk1, hb, hib, List.length_map, hin] <;> rfl) (fun hb25 => ?_) (fun hb25 => ?_)
    · exact absurd hb25 (by simp)
    have hpp : (inB b.no p.1.fr p.1.to && decide (b.day ≤ d)) = false := by rw [hin]; rfl
    rw [if_neg (by rw [hpp]; decide)] at hsn
    refine Blk1K.nrm ?_
    refine WhlK.nxt ((t ++ [i])) ?_ ?_ ?_
    · omega
    · exact ⟨hnd, hbn⟩
    · exact Ghost.kp [0, 1, 2, 6, 12] [12, 901] (by simp only [go_sem, hgl, hk1, hb, hib, List.length_map, hin, hsn]; first | ((repeat' (first | with_reducible_and_instances rfl | refine st_eq ?_ ?_ ?_ | refine ret_eq ?_ | refine tup_eq ?_ | refine tm_eq ?_ ?_ | refine arr_eq ?_ | refine cells_eq ?_ | refine val_eq ?_ | refine ls_eq ?_ ?_ | refine own_eq ?_ ?_ | refine sl_eq ?_ | refine b_eq ?_ | (refine i_eq ?_; omega))); done) | rfl)
  · exact absurd hb14 (by simp)

end Go.Mw
namespace Go.Mw
open Go.Proofs
open Go.Te
/-- The rows, each with its term. -/
def rws (s : Stk) (l : List (Int × Int)) : Rws := s.rs.zip l
theorem rws_len {s : Stk} {l : List (Int × Int)} (h : l.length = s.rs.length) : (rws s l).length = s.rs.length := by unfold rws; rw [List.length_zip, h, Nat.min_self]
theorem rws_get {s : Stk} {l : List (Int × Int)} (h : l.length = s.rs.length) {i : Nat} (hi : i < s.rs.length) : (rws s l)[i]? = some (rowOf s i, endAt l i) := by
  unfold rws
  rw [List.getElem?_zip_eq_some]
  refine ⟨rowOf_get hi, ?_⟩
  rw [List.getElem?_eq_getElem (by omega)]
  simp [endAt, List.getD, List.getElem?_eq_getElem (show i < l.length by omega)]
theorem zip_find {p : Sl → Bool} : ∀ (rs : List Sl) (l : List (Int × Int)), l.length = rs.length → (rs.zip l).findIdx? (fun q => p q.1) = rs.findIdx? p
  | [], _, _ => rfl
  | r :: rs, [], h => by simp at h
  | r :: rs, t :: l, h => by
    rw [List.zip_cons_cons, List.findIdx?_cons, List.findIdx?_cons, zip_find rs l (by simpa using h)]
theorem rws_find {s : Stk} {l : List (Int × Int)} (h : l.length = s.rs.length) (x : Int) : (rws s l).findIdx? (fun p => inB x p.1.fr p.1.to) = rowI s x := zip_find (p := fun r => inB x r.fr r.to) s.rs l h
theorem zip_set {α β : Type} : ∀ (l : List α) (m : List β) (i : Nat) (a : α) (b : β), l[i]? = some a → (l.zip m).set i (a, b) = l.zip (m.set i b)
  | [], _, _, _, _, h => by simp at h
  | x :: l, [], i, a, b, h => by simp
  | x :: l, y :: m, 0, a, b, h => by simp at h; subst h; rfl
  | x :: l, y :: m, i + 1, a, b, h => by
    rw [List.zip_cons_cons, List.set_cons_succ, zip_set l m i a b (by simpa using h)]; rfl
theorem rws_set {s : Stk} {l : List (Int × Int)} {i : Nat} (hi : i < s.rs.length) (t : Int × Int) : rws s (l.set i t) = (rws s l).set i (rowOf s i, t) := (zip_set _ _ _ _ _ (rowOf_get hi)).symm
set_option maxRecDepth 20000 in
/-- math/bits.OnesCount -/
theorem c_OnesCount (n : Nat) (hn : n < 1048576) : Contract Try.prog 74 [.raw (.int .u64 (n : Int))] (.int (popc n : Nat)) [] := by
  refine con_of follows_mixed Try.func74 rfl (by simp only [List.length_cons, List.length_nil, Try.ntmps74]; omega) (by kernel_rfl) rfl ?_
  refine Exec.reg ?_
  refine Run.o ?_
  refine Run.nil ?_
  refine Exec.cndS (by simp only [go_sem] <;> rfl) (fun hb0 => ?_) (fun hb0 => ?_)
  · exact absurd hb0 (by simp)
  · skip
    refine Exec.skipS ?_
    refine Exec.reg ?_
    refine Run.o ?_
    refine Run.c1 (c_OnesCount64 n hn) (by simp only [go_sem] <;> rfl) (by simp only [go_sem] <;> rfl) ?_
    refine Run.o ?_
    refine Run.nil ?_
    exact Ends.fin [] (rs := [.tmp 2]) rfl (by simp only [go_sem] <;> rfl) (by simp only [go_sem] <;> first | rfl | ((repeat' (first | with_reducible_and_instances rfl | refine st_eq ?_ ?_ ?_ | refine ret_eq ?_ | refine tup_eq ?_ | refine tm_eq ?_ ?_ | refine arr_eq ?_ | refine cells_eq ?_ | refine val_eq ?_ | refine ls_eq ?_ ?_ | refine own_eq ?_ ?_ | refine sl_eq ?_ | refine b_eq ?_ | (refine i_eq ?_; omega))); done))

set_option maxRecDepth 20000 in
set_option maxHeartbeats 8000000 in
/-- (*meterworks/term.store).decide -/
theorem c_decide (s : Stk) (v : Val s) (p : Pf) (hpm : p ∈ s.ps) (l : List (Int × Int)) (hl : TmB s l) : Con Try.prog 61 [.leaf (.fpt (rowsF s s.rs.length)), pfV p] [(900, .arr 70 6 ((rws s l).map encRow))] (.ret (.tup []) [(900, .arr 70 6 ((rws s (aftT s p l)).map encRow))]) := by
  have hrs := v.nrs
  have hps := v.prf p hpm
  have hll := hl.len
  have hc := clsOf_get hps.1.1 hps.1.2
  have hcb := v.cls _ (cls_mem hps.1.1 hps.1.2)
  obtain ⟨f, hfe⟩ : ∃ f : Nat, p.failed = f := ⟨p.failed.toNat, by omega⟩
  have hft : p.failed.toNat = f := by omega
  have ep : decide ((popc f : Int) ≤ (clsOf s p.cl).fail) = passB s p := by unfold passB; rw [hft]
  have hr0 := rws_len hll
  refine con_of follows_mixed Try.func61 rfl (by simp only [List.length_cons, List.length_nil, Try.ntmps61]; omega) (by kernel_rfl) rfl ?_
  refine Exec.reg ?_
  refine Run.o1 (by simp only [go_sem, hc, hfe, ep, hr0] <;> rfl) ?_
  refine Run.nil ?_
  refine Exec.opk 13 ?_
  refine OpenK.o1 (by simp only [go_sem, hc, hfe, ep, hr0] <;> rfl) ?_
  refine OpenK.o1 (by simp only [go_sem, hc, hfe, ep, hr0] <;> rfl) ?_
  refine OpenK.o1 (by simp only [go_sem, hc, hfe, ep, hr0] <;> rfl) ?_
  refine OpenK.o1 (by simp only [go_sem, hc, hfe, ep, hr0] <;> rfl) ?_
  refine OpenK.o1 (by simp only [go_sem, hc, hfe, ep, hr0] <;> rfl) ?_
  refine OpenK.o1 (by simp only [go_sem, hc, hfe, ep, hr0] <;> rfl) ?_
  refine OpenK.o1 (by simp only [go_sem, hc, hfe, ep, hr0] <;> rfl) ?_
  refine OpenK.o1 (by simp only [go_sem, hc, hfe, ep, hr0]; (try simp (disch := omega) only [if_pos]); (try simp only [go_sem, hc, hfe, ep, hr0])<;> rfl) ?_
  refine OpenK.o1 (by simp only [go_sem, hc, hfe, ep, hr0] <;> rfl) ?_
  refine OpenK.o1 (by simp only [go_sem, hc, hfe, ep, hr0] <;> rfl) ?_
  refine OpenK.o1 (by simp only [go_sem, hc, hfe, ep, hr0] <;> rfl) ?_
  refine OpenK.nil (OpenE.fin (by decide +kernel) (by decide +kernel) ?_)
  refine Exec.opk 10 ?_
  refine OpenK.o1 (by simp only [go_sem, hc, hfe, ep, hr0] <;> rfl) ?_
  refine OpenK.o1 (by simp only [go_sem, hc, hfe, ep, hr0] <;> rfl) ?_
  refine OpenK.o1 (by simp only [go_sem, hc, hfe, ep, hr0]; (try simp (disch := omega) only [IntWalk.i64_in, IntWalk.u64_in, if_neg, if_pos])<;> rfl) ?_
  refine OpenK.cal (c_OnesCount f (by omega)) (by simp only [go_sem]) (by simp only [go_sem, hc, hfe, ep, hr0] <;> rfl) (by exact ⟨by first | exact WkR.pure rfl | exact WkR.nil _ | exact WkR.int (by first | omega | (simp; done) | (simp; omega)), trivial⟩) (fr0) (by simp only [go_sem, hc, hfe, ep, hr0] <;> rfl) (by simp only [go_sem] <;> rfl) (by simp only [go_sem] <;> rfl) ?_
  refine OpenK.o1 (by simp only [go_sem, hc, hfe, ep, hr0] <;> rfl) ?_
  refine OpenK.o1 (by simp only [go_sem, hc, hfe, ep, hr0] <;> rfl) ?_
  refine OpenK.o1 (by simp only [go_sem, hc, hfe, ep, hr0] <;> rfl) ?_
  refine OpenK.o1 (by simp only [go_sem, hc, hfe, ep, hr0] <;> rfl) ?_
  refine OpenK.nil (OpenE.fin (by decide +kernel) (by decide +kernel) ?_)
  refine Exec.reg ?_
  iterate 6 (refine Run.o1 (by simp only [go_sem, hc, hfe, ep, hr0] <;> rfl) ?_)
  refine Run.nil ?_
  refine Exec.blk1 ?_
  refine Exec.forA [0, 3, 4, 5, 28, 29] [3, 4, 900] (s.rs.length) (fun k => [.slot 29 (.int k), .obj 900 (.arr 70 6 ((rws s (aftK s p l k)).map encRow))]) (fun _ => True) (fun k => by simp only [go_sem] <;> rfl) (by simp only [go_sem, hc, hfe, ep, hr0, aft_zero, Int.natCast_zero] <;> rfl) ?_ (fun k hk hX => ?_)
  · trivial
  · skip
    have hal := aft_len (p := p) hll (k := k) hk
    have hrl := rws_len hal
    refine Exec.reg ?_
    refine Run.o1 (by simp only [go_sem, hc, hfe, ep, hr0, hal, hrl] <;> rfl) ?_
    refine Run.nil ?_
    refine Exec.cndS (by simp only [go_sem, hc, hfe, ep, hr0, hal, hrl] <;> rfl) (fun hb30 => ?_) (fun hb30 => ?_)
    · skip
      have hlt : k < s.rs.length := by have h := of_decide_eq_true hb30; omega
      obtain ⟨t, ht⟩ : ∃ t, l[k]? = some t := ⟨_, List.getElem?_eq_getElem (by omega)⟩
      have htb := hl.bnd t (List.mem_of_getElem? ht)
      have hat := aft_at (p := p) hll ht
      have hg := rws_get hal hlt
      rw [endAt_of hat] at hg
      have hss : ∀ y, (((rws s (aftK s p l k)).map encRow).set k y)[k]? = some y := fun y => List.getElem?_set_self (by rw [List.length_map]; omega)
      refine Exec.skipS ?_
      refine Exec.blk ?_
      refine Exec.reg ?_
      iterate 2 (refine Run.o1 (by simp only [go_sem, hc, hfe, ep, hr0, hal, hrl, hg, hss, List.set_set] <;> rfl) ?_)
      refine Run.nil ?_
      refine Exec.reg ?_
      iterate 5 (refine Run.o1 (by simp only [go_sem, hc, hfe, ep, hr0, hal, hrl, hg, hss, List.set_set] <;> rfl) ?_)
      refine Run.o1 (by simp only [go_sem, hc, hfe, ep, hr0, hal, hrl, hg, hss, List.set_set]; (try simp (disch := omega) only [if_pos]); (try simp only [go_sem, hc, hfe, ep, hr0, hal, hrl, hg, hss, List.set_set])<;> rfl) ?_
      refine Run.o1 (by simp only [go_sem, hc, hfe, ep, hr0, hal, hrl, hg, hss, List.set_set] <;> rfl) ?_
      refine Run.nil ?_
      refine Exec.assocS ?_
      by_cases hclq : (rowOf s k).cl = p.cl
      · skip
        have hne : ((rowOf s k).cl != p.cl) = false := by simpa using hclq
        refine Exec.opk 17 ?_
        refine OpenK.o1 (by simp only [go_sem, hc, hfe, ep, hr0, hal, hrl, hg, hss, List.set_set, hne] <;> rfl) ?_
        refine OpenK.o1 (by simp only [go_sem, hc, hfe, ep, hr0, hal, hrl, hg, hss, List.set_set, hne] <;> rfl) ?_
        refine OpenK.o1 (by simp only [go_sem, hc, hfe, ep, hr0, hal, hrl, hg, hss, List.set_set, hne] <;> rfl) ?_
        refine OpenK.o1 (by simp only [go_sem, hc, hfe, ep, hr0, hal, hrl, hg, hss, List.set_set, hne] <;> rfl) ?_
        refine OpenK.o1 (by simp only [go_sem, hc, hfe, ep, hr0, hal, hrl, hg, hss, List.set_set, hne] <;> rfl) ?_
        refine OpenK.o1 (by simp only [go_sem, hc, hfe, ep, hr0, hal, hrl, hg, hss, List.set_set, hne] <;> rfl) ?_
        refine OpenK.o1 (by simp only [go_sem, hc, hfe, ep, hr0, hal, hrl, hg, hss, List.set_set, hne] <;> rfl) ?_
        refine OpenK.o1 (by simp only [go_sem, hc, hfe, ep, hr0, hal, hrl, hg, hss, List.set_set, hne] <;> rfl) ?_
        refine OpenK.o1 (by simp only [go_sem, hc, hfe, ep, hr0, hal, hrl, hg, hss, List.set_set, hne] <;> rfl) ?_
        refine OpenK.y1 (by simp only [go_sem, hc, hfe, ep, hr0, hal, hrl, hg, hss, List.set_set, hne] <;> rfl) ?_
        refine OpenK.y1 (by simp only [go_sem, hc, hfe, ep, hr0, hal, hrl, hg, hss, List.set_set, hne] <;> rfl) ?_
        refine OpenK.y1 (by simp only [go_sem, hc, hfe, ep, hr0, hal, hrl, hg, hss, List.set_set, hne] <;> rfl) ?_
        refine OpenK.lend 900 900 (by simp only [go_sem, hclq] <;> rfl) (c_row_force_l (rws s (aftK s p l k)) s.rs.length k hrl (rowOf s k, t) hg p.day (by simp only; omega)) (by simp only [go_sem]) (by simp only [go_sem] <;> rfl) (by simp only [go_sem] <;> rfl) (by simp only [go_sem] <;> rfl) (by exact ⟨WkR.of rfl (by simp only [go_sem] <;> rfl), WkR.pure rfl, trivial⟩) (by simp only [go_sem] <;> rfl) (by simp only [go_sem] <;> rfl) (by simp only [go_sem] <;> rfl) ?_
        refine OpenK.y1 (by simp only [go_sem, hc, hfe, ep, hr0, hal, hrl, hg, hss, List.set_set, hne] <;> rfl) ?_
        refine OpenK.o1 (by simp only [go_sem, hc, hfe, ep, hr0, hal, hrl, hg, hss, List.set_set, hne] <;> rfl) ?_
        refine OpenK.nil (OpenE.fin (by decide +kernel) (by decide +kernel) ?_)
        refine Exec.cndS (by simp only [go_sem, hc, hfe, ep, hr0, hal, hrl, hg, hss, List.set_set, hne] <;> rfl) (fun hb52 => ?_) (fun hb52 => ?_)
        · skip
          have hin : inForce (rowOf s k) t.1 p.day = false := by simpa using hb52
          have hsk : step1 s p (rowOf s k) t = t := by unfold step1; rw [if_neg (fun h => by rw [hin] at h; exact absurd h.2 (by decide))]
          have hsk := aft_same hll ht hsk
          refine Exec.exitS ?_
          refine BlkK.hit ?_
          refine Exec.reg1 ?_
          refine Run.o1 (by simp only [go_sem, hc, hfe, ep, hr0, hal, hrl, hg, hss, List.set_set, hne, hsk]; (try simp (disch := omega) only [IntWalk.i64_in, IntWalk.u64_in, if_neg, if_pos])<;> rfl) ?_
          refine Run.o1 (by simp only [go_sem, hc, hfe, ep, hr0, hal, hrl, hg, hss, List.set_set, hne, hsk] <;> rfl) ?_
          refine Run.nil ?_
          refine ForK.nxt ?_ ?_ ?_
          · omega
          · exact Ghost.kp [0, 3, 4, 5, 28, 29] [3, 4, 900] (by simp only [go_sem, hc, hfe, ep, hr0, hal, hrl, hg, hss, List.set_set, hne, hsk]; first | ((repeat' (first | with_reducible_and_instances rfl | refine st_eq ?_ ?_ ?_ | refine ret_eq ?_ | refine tup_eq ?_ | refine tm_eq ?_ ?_ | refine arr_eq ?_ | refine cells_eq ?_ | refine val_eq ?_ | refine ls_eq ?_ ?_ | refine own_eq ?_ ?_ | refine sl_eq ?_ | refine b_eq ?_ | (refine i_eq ?_; omega))); done) | rfl)
          · trivial
        · skip
          have hin : inForce (rowOf s k) t.1 p.day = true := by simpa using hb52
          refine Exec.skipS ?_
          refine Exec.blk1 ?_
          refine Exec.reg ?_
          iterate 3 (refine Run.o1 (by simp only [go_sem, hc, hfe, ep, hr0, hal, hrl, hg, hss, List.set_set, hne] <;> rfl) ?_)
          refine Run.nil ?_
          refine Exec.cnd (by simp only [go_sem, hc, hfe, ep, hr0, hal, hrl, hg, hss, List.set_set, hne] <;> rfl) (fun hb53 => ?_) (fun hb53 => ?_)
          · skip
            have hst := stepF (s := s) ⟨hclq, hin⟩ (by simpa using hb53)
            have hsk := aft_succ (p := p) hll ht
            rw [hst] at hsk
            have hsr := rws_set (s := s) (l := aftK s p l k) hlt (p.day + 1, t.2)
            refine Exec.reg1 ?_
            iterate 3 (refine Run.o1 (by simp only [go_sem, hc, hfe, ep, hr0, hal, hrl, hg, hss, List.set_set, hne, hsk, hsr, List.map_set] <;> rfl) ?_)
            refine Run.o1 (by simp only [go_sem, hc, hfe, ep, hr0, hal, hrl, hg, hss, List.set_set, hne, hsk, hsr, List.map_set]; (try simp (disch := omega) only [IntWalk.i64_in, IntWalk.u64_in, if_neg, if_pos])<;> rfl) ?_
            iterate 3 (refine Run.o1 (by simp only [go_sem, hc, hfe, ep, hr0, hal, hrl, hg, hss, List.set_set, hne, hsk, hsr, List.map_set] <;> rfl) ?_)
            refine Run.nil ?_
            refine Blk1K.nrm ?_
            refine BlkK.nrm ?_
            refine Exec.reg1 ?_
            refine Run.o1 (by simp only [go_sem, hc, hfe, ep, hr0, hal, hrl, hg, hss, List.set_set, hne, hsk, hsr, List.map_set]; (try simp (disch := omega) only [IntWalk.i64_in, IntWalk.u64_in, if_neg, if_pos])<;> rfl) ?_
            refine Run.o1 (by simp only [go_sem, hc, hfe, ep, hr0, hal, hrl, hg, hss, List.set_set, hne, hsk, hsr, List.map_set] <;> rfl) ?_
            refine Run.nil ?_
            refine ForK.nxt ?_ ?_ ?_
            · omega
            · exact Ghost.kp [0, 3, 4, 5, 28, 29] [3, 4, 900] (by simp only [go_sem, hc, hfe, ep, hr0, hal, hrl, hg, hss, List.set_set, hne, hsk, hsr, List.map_set]; first | ((repeat' (first | with_reducible_and_instances rfl | refine st_eq ?_ ?_ ?_ | refine ret_eq ?_ | refine tup_eq ?_ | refine tm_eq ?_ ?_ | refine arr_eq ?_ | refine cells_eq ?_ | refine val_eq ?_ | refine ls_eq ?_ ?_ | refine own_eq ?_ ?_ | refine sl_eq ?_ | refine b_eq ?_ | (refine i_eq ?_; omega))); done) | rfl)
            · trivial
          · skip
            have hpass : passB s p = true := by simpa using hb53
            refine Exec.opk 10 ?_
            refine OpenK.o1 (by simp only [go_sem, hc, hfe, ep, hr0, hal, hrl, hg, hss, List.set_set, hne] <;> rfl) ?_
            refine OpenK.o1 (by simp only [go_sem, hc, hfe, ep, hr0, hal, hrl, hg, hss, List.set_set, hne] <;> rfl) ?_
            refine OpenK.o1 (by simp only [go_sem, hc, hfe, ep, hr0, hal, hrl, hg, hss, List.set_set, hne] <;> rfl) ?_
            refine OpenK.o1 (by simp only [go_sem, hc, hfe, ep, hr0, hal, hrl, hg, hss, List.set_set, hne] <;> rfl) ?_
            refine OpenK.o1 (by simp only [go_sem, hc, hfe, ep, hr0, hal, hrl, hg, hss, List.set_set, hne] <;> rfl) ?_
            refine OpenK.o1 (by simp only [go_sem, hc, hfe, ep, hr0, hal, hrl, hg, hss, List.set_set, hne] <;> rfl) ?_
            refine OpenK.o1 (by simp only [go_sem, hc, hfe, ep, hr0, hal, hrl, hg, hss, List.set_set, hne] <;> rfl) ?_
            refine OpenK.o1 (by simp only [go_sem, hc, hfe, ep, hr0, hal, hrl, hg, hss, List.set_set, hne] <;> rfl) ?_
            refine OpenK.nil (OpenE.fin (by decide +kernel) (by decide +kernel) ?_)
            refine Exec.cnd (by simp only [go_sem, hc, hfe, ep, hr0, hal, hrl, hg, hss, List.set_set, hne] <;> rfl) (fun hb62 => ?_) (fun hb62 => ?_)
            · skip
              have hst := stepM (s := s) ⟨hclq, hin⟩ hpass (of_decide_eq_true hb62)
              have hsk := aft_succ (p := p) hll ht
              rw [hst] at hsk
              have hsr := rws_set (s := s) (l := aftK s p l k) hlt (t.1 + (clsOf s p.cl).more, t.2 + 1)
              refine Exec.opk1 22 ?_
              refine OpenK.o1 (by simp only [go_sem, hc, hfe, ep, hr0, hal, hrl, hg, hss, List.set_set, hne, hsk, hsr, List.map_set] <;> rfl) ?_
              refine OpenK.o1 (by simp only [go_sem, hc, hfe, ep, hr0, hal, hrl, hg, hss, List.set_set, hne, hsk, hsr, List.map_set] <;> rfl) ?_
              refine OpenK.o1 (by simp only [go_sem, hc, hfe, ep, hr0, hal, hrl, hg, hss, List.set_set, hne, hsk, hsr, List.map_set] <;> rfl) ?_
              refine OpenK.o1 (by simp only [go_sem, hc, hfe, ep, hr0, hal, hrl, hg, hss, List.set_set, hne, hsk, hsr, List.map_set] <;> rfl) ?_
              refine OpenK.o1 (by simp only [go_sem, hc, hfe, ep, hr0, hal, hrl, hg, hss, List.set_set, hne, hsk, hsr, List.map_set] <;> rfl) ?_
              refine OpenK.o1 (by simp only [go_sem, hc, hfe, ep, hr0, hal, hrl, hg, hss, List.set_set, hne, hsk, hsr, List.map_set] <;> rfl) ?_
              refine OpenK.o1 (by simp only [go_sem, hc, hfe, ep, hr0, hal, hrl, hg, hss, List.set_set, hne, hsk, hsr, List.map_set] <;> rfl) ?_
              refine OpenK.o1 (by simp only [go_sem, hc, hfe, ep, hr0, hal, hrl, hg, hss, List.set_set, hne, hsk, hsr, List.map_set] <;> rfl) ?_
              refine OpenK.o1 (by simp only [go_sem, hc, hfe, ep, hr0, hal, hrl, hg, hss, List.set_set, hne, hsk, hsr, List.map_set]; (try simp (disch := omega) only [IntWalk.i64_in, IntWalk.u64_in, if_neg, if_pos])<;> rfl) ?_
              refine OpenK.o1 (by simp only [go_sem, hc, hfe, ep, hr0, hal, hrl, hg, hss, List.set_set, hne, hsk, hsr, List.map_set] <;> rfl) ?_
              refine OpenK.o1 (by simp only [go_sem, hc, hfe, ep, hr0, hal, hrl, hg, hss, List.set_set, hne, hsk, hsr, List.map_set] <;> rfl) ?_
              refine OpenK.o1 (by simp only [go_sem, hc, hfe, ep, hr0, hal, hrl, hg, hss, List.set_set, hne, hsk, hsr, List.map_set] <;> rfl) ?_
              refine OpenK.o1 (by simp only [go_sem, hc, hfe, ep, hr0, hal, hrl, hg, hss, List.set_set, hne, hsk, hsr, List.map_set] <;> rfl) ?_
              refine OpenK.o1 (by simp only [go_sem, hc, hfe, ep, hr0, hal, hrl, hg, hss, List.set_set, hne, hsk, hsr, List.map_set]; (try simp (disch := omega) only [IntWalk.i64_in, IntWalk.u64_in, if_neg, if_pos])<;> rfl) ?_
              refine OpenK.o1 (by simp only [go_sem, hc, hfe, ep, hr0, hal, hrl, hg, hss, List.set_set, hne, hsk, hsr, List.map_set] <;> rfl) ?_
              refine OpenK.o1 (by simp only [go_sem, hc, hfe, ep, hr0, hal, hrl, hg, hss, List.set_set, hne, hsk, hsr, List.map_set] <;> rfl) ?_
              refine OpenK.o1 (by simp only [go_sem, hc, hfe, ep, hr0, hal, hrl, hg, hss, List.set_set, hne, hsk, hsr, List.map_set] <;> rfl) ?_
              refine OpenK.o1 (by simp only [go_sem, hc, hfe, ep, hr0, hal, hrl, hg, hss, List.set_set, hne, hsk, hsr, List.map_set] <;> rfl) ?_
              refine OpenK.o1 (by simp only [go_sem, hc, hfe, ep, hr0, hal, hrl, hg, hss, List.set_set, hne, hsk, hsr, List.map_set] <;> rfl) ?_
              refine OpenK.o1 (by simp only [go_sem, hc, hfe, ep, hr0, hal, hrl, hg, hss, List.set_set, hne, hsk, hsr, List.map_set] <;> rfl) ?_
              refine OpenK.nil (OpenE.finT (by kernel_rfl) (by kernel_rfl) (by kernel_rfl) ?_)
              refine Blk1K.nrm ?_
              refine BlkK.nrm ?_
              refine Exec.reg1 ?_
              refine Run.o1 (by simp only [go_sem, hc, hfe, ep, hr0, hal, hrl, hg, hss, List.set_set, hne, hsk, hsr, List.map_set]; (try simp (disch := omega) only [IntWalk.i64_in, IntWalk.u64_in, if_neg, if_pos])<;> rfl) ?_
              refine Run.o1 (by simp only [go_sem, hc, hfe, ep, hr0, hal, hrl, hg, hss, List.set_set, hne, hsk, hsr, List.map_set] <;> rfl) ?_
              refine Run.nil ?_
              refine ForK.nxt ?_ ?_ ?_
              · omega
              · exact Ghost.kp [0, 3, 4, 5, 28, 29] [3, 4, 900] (by simp only [go_sem, hc, hfe, ep, hr0, hal, hrl, hg, hss, List.set_set, hne, hsk, hsr, List.map_set]; first | ((repeat' (first | with_reducible_and_instances rfl | refine st_eq ?_ ?_ ?_ | refine ret_eq ?_ | refine tup_eq ?_ | refine tm_eq ?_ ?_ | refine arr_eq ?_ | refine cells_eq ?_ | refine val_eq ?_ | refine ls_eq ?_ ?_ | refine own_eq ?_ ?_ | refine sl_eq ?_ | refine b_eq ?_ | (refine i_eq ?_; omega))); done) | rfl)
              · trivial
            · skip
              have hsk := aft_same hll ht (stepX (s := s) ⟨hclq, hin⟩ hpass (of_decide_eq_false hb62))
              refine Blk1K.nrm ?_
              refine BlkK.nrm ?_
              refine Exec.reg1 ?_
              refine Run.o1 (by simp only [go_sem, hc, hfe, ep, hr0, hal, hrl, hg, hss, List.set_set, hne, hsk]; (try simp (disch := omega) only [IntWalk.i64_in, IntWalk.u64_in, if_neg, if_pos])<;> rfl) ?_
              refine Run.o1 (by simp only [go_sem, hc, hfe, ep, hr0, hal, hrl, hg, hss, List.set_set, hne, hsk] <;> rfl) ?_
              refine Run.nil ?_
              refine ForK.nxt ?_ ?_ ?_
              · omega
              · exact Ghost.kp [0, 3, 4, 5, 28, 29] [3, 4, 900] (by simp only [go_sem, hc, hfe, ep, hr0, hal, hrl, hg, hss, List.set_set, hne, hsk]; first | ((repeat' (first | with_reducible_and_instances rfl | refine st_eq ?_ ?_ ?_ | refine ret_eq ?_ | refine tup_eq ?_ | refine tm_eq ?_ ?_ | refine arr_eq ?_ | refine cells_eq ?_ | refine val_eq ?_ | refine ls_eq ?_ ?_ | refine own_eq ?_ ?_ | refine sl_eq ?_ | refine b_eq ?_ | (refine i_eq ?_; omega))); done) | rfl)
              · trivial
      · skip
        have hne : ((rowOf s k).cl != p.cl) = true := by simpa using hclq
        have hsk : step1 s p (rowOf s k) t = t := by unfold step1; rw [if_neg (fun h => hclq h.1)]
        have hsk := aft_same hll ht hsk
        refine Exec.opk 17 ?_
        refine OpenK.o1 (by simp only [go_sem, hc, hfe, ep, hr0, hal, hrl, hg, hss, List.set_set, hne, hsk] <;> rfl) ?_
        refine OpenK.o1 (by simp only [go_sem, hc, hfe, ep, hr0, hal, hrl, hg, hss, List.set_set, hne, hsk] <;> rfl) ?_
        refine OpenK.o1 (by simp only [go_sem, hc, hfe, ep, hr0, hal, hrl, hg, hss, List.set_set, hne, hsk] <;> rfl) ?_
        refine OpenK.o1 (by simp only [go_sem, hc, hfe, ep, hr0, hal, hrl, hg, hss, List.set_set, hne, hsk] <;> rfl) ?_
        refine OpenK.o1 (by simp only [go_sem, hc, hfe, ep, hr0, hal, hrl, hg, hss, List.set_set, hne, hsk] <;> rfl) ?_
        refine OpenK.o1 (by simp only [go_sem, hc, hfe, ep, hr0, hal, hrl, hg, hss, List.set_set, hne, hsk] <;> rfl) ?_
        refine OpenK.o1 (by simp only [go_sem, hc, hfe, ep, hr0, hal, hrl, hg, hss, List.set_set, hne, hsk] <;> rfl) ?_
        refine OpenK.o1 (by simp only [go_sem, hc, hfe, ep, hr0, hal, hrl, hg, hss, List.set_set, hne, hsk] <;> rfl) ?_
        refine OpenK.o1 (by simp only [go_sem, hc, hfe, ep, hr0, hal, hrl, hg, hss, List.set_set, hne, hsk] <;> rfl) ?_
        refine OpenK.s ?_
        refine OpenK.s ?_
        refine OpenK.s ?_
        refine OpenK.s ?_
        refine OpenK.s ?_
        refine OpenK.o1 (by simp only [go_sem, hc, hfe, ep, hr0, hal, hrl, hg, hss, List.set_set, hne, hsk] <;> rfl) ?_
        refine OpenK.nil (OpenE.fin (by decide +kernel) (by decide +kernel) ?_)
        refine Exec.cndS (by simp only [go_sem, hc, hfe, ep, hr0, hal, hrl, hg, hss, List.set_set, hne, hsk] <;> rfl) (fun hb52 => ?_) (fun hb52 => ?_)
        · skip
          refine Exec.exitS ?_
          refine BlkK.hit ?_
          refine Exec.reg1 ?_
          refine Run.o1 (by simp only [go_sem, hc, hfe, ep, hr0, hal, hrl, hg, hss, List.set_set, hne, hsk]; (try simp (disch := omega) only [IntWalk.i64_in, IntWalk.u64_in, if_neg, if_pos])<;> rfl) ?_
          refine Run.o1 (by simp only [go_sem, hc, hfe, ep, hr0, hal, hrl, hg, hss, List.set_set, hne, hsk] <;> rfl) ?_
          refine Run.nil ?_
          refine ForK.nxt ?_ ?_ ?_
          · omega
          · exact Ghost.kp [0, 3, 4, 5, 28, 29] [3, 4, 900] (by simp only [go_sem, hc, hfe, ep, hr0, hal, hrl, hg, hss, List.set_set, hne, hsk]; first | ((repeat' (first | with_reducible_and_instances rfl | refine st_eq ?_ ?_ ?_ | refine ret_eq ?_ | refine tup_eq ?_ | refine tm_eq ?_ ?_ | refine arr_eq ?_ | refine cells_eq ?_ | refine val_eq ?_ | refine ls_eq ?_ ?_ | refine own_eq ?_ ?_ | refine sl_eq ?_ | refine b_eq ?_ | (refine i_eq ?_; omega))); done) | rfl)
          · trivial
        · exact absurd hb52 (by simp)
    · skip
      have hge : s.rs.length ≤ k := by have h := of_decide_eq_false hb30; omega
      have hta := aft_end (p := p) hll hge
      refine Exec.exitS ?_
      refine ForK.ext ?_
      refine Blk1K.hit ?_
      exact Ends.fin0 [900] (rs := []) rfl (by simp only [go_sem, hc, hfe, ep, hr0, hal, hrl, hta] <;> rfl) (by simp only [go_sem, hc, hfe, ep, hr0, hal, hrl, hta] <;> first | rfl | ((repeat' (first | with_reducible_and_instances rfl | refine st_eq ?_ ?_ ?_ | refine ret_eq ?_ | refine tup_eq ?_ | refine tm_eq ?_ ?_ | refine arr_eq ?_ | refine cells_eq ?_ | refine val_eq ?_ | refine ls_eq ?_ ?_ | refine own_eq ?_ ?_ | refine sl_eq ?_ | refine b_eq ?_ | (refine i_eq ?_; omega))); done))

end Go.Mw
namespace Go.Mw
open Go.Proofs
open Go.Te
def prV (s : Stk) : List (List AV) := (ordI s).map fun n => [.int (n : Nat), pfV (prOf s n)]
theorem prV_len (s : Stk) : (prV s).length = s.ps.length := by unfold prV; rw [List.length_map, ord_len]
theorem prV_get {s : Stk} {k : Nat} {v : List AV} (h : (prV s)[k]? = some v) : ∃ n, (ordI s)[k]? = some n ∧ v = [.int (n : Nat), pfV (prOf s n)] := by
  unfold prV at h
  rw [List.getElem?_map] at h
  cases hi : (ordI s)[k]? with
  | none => simp [hi] at h
  | some i => exact ⟨i, rfl, by simpa [hi] using h.symm⟩
theorem prV_drop {s : Stk} {k n : Nat} (h : (ordI s)[k]? = some n) : (prV s).drop k = [.int (n : Nat), pfV (prOf s n)] :: (prV s).drop (k + 1) := by
  have : (prV s)[k]? = some [.int (n : Nat), pfV (prOf s n)] := by unfold prV; rw [List.getElem?_map, h]; rfl
  obtain ⟨h1, h2⟩ := List.getElem?_eq_some_iff.1 this
  rw [← h2]
  exact (List.getElem_cons_drop h1).symm
theorem beq_swap {x : Int} {l : List Int} : (l.any fun y => x == y) = l.contains x := List.contains_eq_any_beq.symm
def prfK (s : Stk) : Nat := (firstE (prErr s) s.ps.length).getD s.ps.length
def prfR (s : Stk) : Int × Int := match firstE (prErr s) s.ps.length with
  | some k => ((((ordI s).getD k 0 : Nat) : Int), prErr s k)
  | none => (0, 0)
theorem prf_bad {s : Stk} {k : Nat} (h0 : ∀ j, j < k → prErr s j = 0) (h1 : prErr s k ≠ 0) (hk : k < s.ps.length) : prfK s = k ∧ prfR s = ((((ordI s).getD k 0 : Nat) : Int), prErr s k) := by
  unfold prfK prfR
  rw [firstE_some h0 h1 hk]
  exact ⟨rfl, rfl⟩
theorem prf_good {s : Stk} (h0 : ∀ j, j < s.ps.length → prErr s j = 0) : prfK s = s.ps.length ∧ prfR s = (0, 0) := by
  unfold prfK prfR
  rw [firstE_none.2 h0]
  exact ⟨rfl, rfl⟩
abbrev storeF (s : Stk) : List FL := [.d (csD s.cs), .d (slsD s.rs), .d (psD s.ps), .d (bsD s.bs), .own 900 0 s.rs.length s.rs.length, .obj 901]
theorem isBk_brk (s : Stk) (x d : Int) : isBk s.bs x d = isBrk s x d := rfl
set_option maxRecDepth 20000 in
/-- slices.Index[[]int,int] -/
theorem c_Index_int (l : List Int) (x : Int) (hl : l.length ≤ 1000) : Contract Try.prog 73 [.leaf (.d (intsD l)), .int x] (.int (idxI (l.findIdx? fun y => x == y))) [] := by
  refine con_of follows_mixed Try.func73 rfl (by simp only [List.length_cons, List.length_nil, Try.ntmps73]; omega) (by kernel_rfl) rfl ?_
  refine Exec.reg ?_
  refine Run.o ?_
  refine Run.nil ?_
  refine Exec.assocS ?_
  refine Exec.reg ?_
  iterate 3 (refine Run.o ?_)
  refine Run.nil ?_
  refine Exec.blk ?_
  refine Exec.forA [0, 1, 7, 8] [] (l.length) (fun k => [.slot 8 (.int k)]) (fun k => (l.take k).any (fun y => x == y) = false) (fun k => by simp only [go_sem] <;> rfl) (by simp only [go_sem] <;> rfl) ?_ (fun k hk hX => ?_)
  · rfl
  · skip
    refine Exec.reg ?_
    refine Run.o ?_
    refine Run.nil ?_
    refine Exec.cndS (by simp only [go_sem] <;> rfl) (fun hb9 => ?_) (fun hb9 => ?_)
    · skip
      have hlt := lt_of_dec hb9
      obtain ⟨y, hs⟩ := elem_of hb9
      refine Exec.skipS ?_
      refine Exec.blk ?_
      refine Exec.reg ?_
      iterate 2 (refine Run.o1 (by simp only [go_sem, hs] <;> rfl) ?_)
      refine Run.nil ?_
      refine Exec.reg ?_
      iterate 3 (refine Run.o1 (by simp only [go_sem, hs] <;> rfl) ?_)
      refine Run.o1 (by simp only [go_sem, hs]; (try simp (disch := omega) only [if_pos]); (try simp only [go_sem, hs])<;> rfl) ?_
      iterate 2 (refine Run.o1 (by simp only [go_sem, hs] <;> rfl) ?_)
      refine Run.nil ?_
      refine Exec.cnd (by simp only [go_sem, hs] <;> rfl) (fun hb16 => ?_) (fun hb16 => ?_)
      · skip
        have hr : l.findIdx? (fun y => x == y) = some k := find_at hX hs (by simpa using hb16)
        refine Exec.reg ?_
        iterate 2 (refine Run.o1 (by simp only [go_sem, hs, hr, idxI] <;> rfl) ?_)
        refine Run.nil ?_
        refine BlkK.ret ?_
        refine ForK.ret ?_
        refine BlkK.ret ?_
        exact Ends.fin [] (rs := [.tmp 4]) rfl (by simp only [go_sem, hs, hr, idxI] <;> rfl) (by simp only [go_sem, hs, hr, idxI] <;> first | rfl | ((repeat' (first | with_reducible_and_instances rfl | refine st_eq ?_ ?_ ?_ | refine ret_eq ?_ | refine tup_eq ?_ | refine tm_eq ?_ ?_ | refine arr_eq ?_ | refine cells_eq ?_ | refine val_eq ?_ | refine ls_eq ?_ ?_ | refine own_eq ?_ ?_ | refine sl_eq ?_ | refine b_eq ?_ | (refine i_eq ?_; omega))); done))
      · skip
        have hbx : (x == y) = false := by simpa using hb16
        refine BlkK.nrm ?_
        refine Exec.reg1 ?_
        refine Run.o1 (by simp only [go_sem, hs]; (try simp (disch := omega) only [IntWalk.i64_in, IntWalk.u64_in, if_neg, if_pos])<;> rfl) ?_
        refine Run.o1 (by simp only [go_sem, hs] <;> rfl) ?_
        refine Run.nil ?_
        refine ForK.nxt ?_ ?_ ?_
        · omega
        · exact Ghost.kp [0, 1, 7, 8] [] (by simp only [go_sem, hs]; first | ((repeat' (first | with_reducible_and_instances rfl | refine st_eq ?_ ?_ ?_ | refine ret_eq ?_ | refine tup_eq ?_ | refine tm_eq ?_ ?_ | refine arr_eq ?_ | refine cells_eq ?_ | refine val_eq ?_ | refine ls_eq ?_ ?_ | refine own_eq ?_ ?_ | refine sl_eq ?_ | refine b_eq ?_ | (refine i_eq ?_; omega))); done) | rfl)
        · exact any_step hX hs hbx
    · skip
      have hr := find_none hX (ge_of_dec hb9)
      refine Exec.exitS ?_
      refine ForK.ext ?_
      refine BlkK.hit ?_
      refine Exec.reg ?_
      refine Run.o1 (by simp only [go_sem, hr, idxI] <;> rfl) ?_
      refine Run.nil ?_
      exact Ends.fin [] (rs := [.tmp 4]) rfl (by simp only [go_sem, hr, idxI] <;> rfl) (by simp only [go_sem, hr, idxI] <;> first | rfl | ((repeat' (first | with_reducible_and_instances rfl | refine st_eq ?_ ?_ ?_ | refine ret_eq ?_ | refine tup_eq ?_ | refine tm_eq ?_ ?_ | refine arr_eq ?_ | refine cells_eq ?_ | refine val_eq ?_ | refine ls_eq ?_ ?_ | refine own_eq ?_ ?_ | refine sl_eq ?_ | refine b_eq ?_ | (refine i_eq ?_; omega))); done))

set_option maxRecDepth 20000 in
/-- slices.Contains[[]int,int] -/
theorem c_Contains_int (l : List Int) (x : Int) (hl : l.length ≤ 1000) : Contract Try.prog 59 [.leaf (.d (intsD l)), .int x] (.bool (l.contains x)) [] := by
  have e := beq_swap (x := x) (l := l)
  refine con_of follows_mixed Try.func59 rfl (by simp only [List.length_cons, List.length_nil, Try.ntmps59]; omega) (by kernel_rfl) rfl ?_
  refine Exec.reg ?_
  refine Run.o1 (by simp only [go_sem, idxI_ge, find_any, e] <;> rfl) ?_
  refine Run.nil ?_
  refine Exec.reg ?_
  iterate 2 (refine Run.o1 (by simp only [go_sem, idxI_ge, find_any, e] <;> rfl) ?_)
  refine Run.c1 (c_Index_int l x hl) (by simp only [go_sem, idxI_ge, find_any, e] <;> rfl) (by simp only [go_sem, idxI_ge, find_any, e] <;> rfl) ?_
  iterate 2 (refine Run.o1 (by simp only [go_sem, idxI_ge, find_any, e] <;> rfl) ?_)
  refine Run.nil ?_
  exact Ends.fin [] (rs := [.tmp 4]) rfl (by simp only [go_sem, idxI_ge, find_any, e] <;> rfl) (by simp only [go_sem, idxI_ge, find_any, e] <;> first | rfl | ((repeat' (first | with_reducible_and_instances rfl | refine st_eq ?_ ?_ ?_ | refine ret_eq ?_ | refine tup_eq ?_ | refine tm_eq ?_ ?_ | refine arr_eq ?_ | refine cells_eq ?_ | refine val_eq ?_ | refine ls_eq ?_ ?_ | refine own_eq ?_ ?_ | refine sl_eq ?_ | refine b_eq ?_ | (refine i_eq ?_; omega))); done))

set_option maxRecDepth 20000 in
/-- (*meterworks/term.store).proofs -/
theorem c_proofs (s : Stk) : Contract Try.prog 58 [.leaf (.d (.pt (encStk s)))] (.leaf (.d (.fn 70 [.pt [.pt (encStk s)]]))) [] := by
  refine con_of follows_mixed Try.func58 rfl (by simp only [List.length_cons, List.length_nil, Try.ntmps58]; omega) (by kernel_rfl) rfl ?_
  refine Exec.reg ?_
  iterate 2 (refine Run.o ?_)
  refine Run.nil ?_
  refine Exec.reg ?_
  refine Run.frz 1 (by simp only [go_sem] <;> rfl) ?_
  iterate 2 (refine Run.o ?_)
  refine Run.nil ?_
  exact Ends.fin [] (rs := [.tmp 2]) rfl (by simp only [go_sem] <;> rfl) (by simp only [go_sem] <;> first | rfl | ((repeat' (first | with_reducible_and_instances rfl | refine st_eq ?_ ?_ ?_ | refine ret_eq ?_ | refine tup_eq ?_ | refine tm_eq ?_ ?_ | refine arr_eq ?_ | refine cells_eq ?_ | refine val_eq ?_ | refine ls_eq ?_ ?_ | refine own_eq ?_ ?_ | refine sl_eq ?_ | refine b_eq ?_ | (refine i_eq ?_; omega))); done))

set_option maxRecDepth 20000 in
set_option maxHeartbeats 4000000 in
/-- (*meterworks/term.store).proofs_1 -/
theorem c_proofs_1 (s : Stk) (h : s.ps.length ≤ 12) : Con Try.prog 70 [.leaf (.obj 900), .leaf (.d (.pt [.pt (encStk s)]))] [(900, .yl)] (lB (prV s)) := by
  have hol := ord_len s
  refine con_of follows_mixed Try.func70 rfl (by simp only [List.length_cons, List.length_nil, Try.ntmps70]; omega) (by kernel_rfl) rfl ?_
  refine Exec.reg ?_
  iterate 5 (refine Run.o1 (by simp only [go_sem, hol] <;> rfl) ?_)
  refine Run.c1 (c_sorted s h) (by simp only [go_sem, hol] <;> rfl) (by simp only [go_sem, hol] <;> rfl) ?_
  iterate 2 (refine Run.o1 (by simp only [go_sem, hol] <;> rfl) ?_)
  refine Run.nil ?_
  refine Exec.blk1 ?_
  refine Exec.forY [0, 1, 10, 11, 12] [900] (s.ps.length) (fun k => [.slot 12 (.int k)]) (fun k => lB ((prV s).drop k)) (fun _ => True) (fun k => by simp only [go_sem] <;> rfl) (by simp only [go_sem, hol, List.drop_zero, Int.natCast_zero] <;> rfl) ?_ (fun k hk hX => ?_)
  · trivial
  · skip
    refine Exec.reg ?_
    refine Run.o1 (by simp only [go_sem, hol] <;> rfl) ?_
    refine Run.nil ?_
    refine Exec.cndS (by simp only [go_sem, hol] <;> rfl) (fun hb13 => ?_) (fun hb13 => ?_)
    · skip
      have hlt : k < s.ps.length := by have := of_decide_eq_true hb13; omega
      obtain ⟨n, hn⟩ : ∃ n, (ordI s)[k]? = some n := ⟨_, List.getElem?_eq_getElem (by omega)⟩
      have hnl := ord_lt hn
      have hpn := prOf_get hnl
      have hdr := prV_drop hn
      refine Exec.skipS ?_
      refine Exec.blk ?_
      refine Exec.reg ?_
      refine Run.o1 (by simp only [go_sem, hol, hn, hpn]; (try simp (disch := omega) only [if_pos]); (try simp only [go_sem, hol, hn, hpn])<;> rfl) ?_
      iterate 2 (refine Run.o1 (by simp only [go_sem, hol, hn, hpn] <;> rfl) ?_)
      refine Run.nil ?_
      refine Exec.reg ?_
      iterate 8 (refine Run.o1 (by simp only [go_sem, hol, hn, hpn] <;> rfl) ?_)
      refine Run.o1 (by simp only [go_sem, hol, hn, hpn]; (try simp (disch := omega) only [if_pos]); (try simp only [go_sem, hol, hn, hpn])<;> rfl) ?_
      refine Run.o1 (by simp only [go_sem, hol, hn, hpn] <;> rfl) ?_
      refine Run.yld (args := [.int (n : Nat), pfV (prOf s n)]) (by simp only [go_sem] <;> rfl) (by simp only [go_sem] <;> rfl) (by simp only [go_sem, hn, hpn] <;> rfl) (by exact ⟨WkP.refl rfl, WkP.refl rfl, trivial⟩) (by simp only [hdr, lB_cons] <;> rfl) (fun t => ?_)
      refine Run.o1 (by simp only [go_sem, hol, hn, hpn] <;> rfl) ?_
      refine Run.nil ?_
      refine Exec.cnd (by simp only [go_sem, hol, hn, hpn] <;> rfl) (fun hb27 => ?_) (fun hb27 => ?_)
      · skip
        have ht : t = false := by simpa using hb27
        subst ht
        refine BlkK.ret ?_
        refine ForK.ret ?_
        refine Blk1K.ret ?_
        exact Ends.fin [] (rs := []) rfl (by simp only [go_sem, hol, hn, hpn] <;> rfl) (by simp only [go_sem, hol, hn, hpn] <;> first | rfl | ((repeat' (first | with_reducible_and_instances rfl | refine st_eq ?_ ?_ ?_ | refine ret_eq ?_ | refine tup_eq ?_ | refine tm_eq ?_ ?_ | refine arr_eq ?_ | refine cells_eq ?_ | refine val_eq ?_ | refine ls_eq ?_ ?_ | refine own_eq ?_ ?_ | refine sl_eq ?_ | refine b_eq ?_ | (refine i_eq ?_; omega))); done))
      · skip
        have ht : t = true := by simpa using hb27
        subst ht
        refine BlkK.nrm ?_
        refine Exec.reg1 ?_
        refine Run.o1 (by simp only [go_sem, hol, hn, hpn]; (try simp (disch := omega) only [IntWalk.i64_in, IntWalk.u64_in, if_neg, if_pos])<;> rfl) ?_
        refine Run.o1 (by simp only [go_sem, hol, hn, hpn] <;> rfl) ?_
        refine Run.nil ?_
        refine ForK.nxt ?_ ?_ ?_
        · omega
        · exact Ghost.kp [0, 1, 10, 11, 12] [900] (by simp only [go_sem, hol, hn, hpn]; first | ((repeat' (first | with_reducible_and_instances rfl | refine st_eq ?_ ?_ ?_ | refine ret_eq ?_ | refine tup_eq ?_ | refine tm_eq ?_ ?_ | refine arr_eq ?_ | refine cells_eq ?_ | refine val_eq ?_ | refine ls_eq ?_ ?_ | refine own_eq ?_ ?_ | refine sl_eq ?_ | refine b_eq ?_ | (refine i_eq ?_; omega))); done) | rfl)
        · trivial
    · skip
      have hke : s.ps.length ≤ k := by have := of_decide_eq_false hb13; omega
      have hdn : (prV s).drop k = [] := List.drop_eq_nil_of_le (by rw [prV_len]; exact hke)
      refine Exec.exitS ?_
      refine ForK.ext ?_
      refine Blk1K.hit ?_
      exact Ends.fin0 [] (rs := []) rfl (by simp only [go_sem, hol, hdn, lB_nil] <;> rfl) (by simp only [go_sem, hol, hdn, lB_nil] <;> first | rfl | ((repeat' (first | with_reducible_and_instances rfl | refine st_eq ?_ ?_ ?_ | refine ret_eq ?_ | refine tup_eq ?_ | refine tm_eq ?_ ?_ | refine arr_eq ?_ | refine cells_eq ?_ | refine val_eq ?_ | refine ls_eq ?_ ?_ | refine own_eq ?_ ?_ | refine sl_eq ?_ | refine b_eq ?_ | (refine i_eq ?_; omega))); done))

set_option maxRecDepth 60000 in
set_option maxHeartbeats 16000000 in
/-- (*meterworks/term.store).checkProofs -/
theorem c_checkProofs (s : Stk) (v : Val s) : Con Try.prog 39 [.leaf (.fpt (storeF s))] [(900, .arr 70 6 ((rws s (begins s)).map encRow)), (901, bkM s.bs)] (.ret (tupI [(prfR s).1, (prfR s).2]) [(900, .arr 70 6 ((rws s (stAt s (prfK s))).map encRow)), (901, bkM s.bs)]) := by
  have hrs := v.nrs
  have hps := v.nps
  have hbs := v.nbs
  refine con_of follows_mixed Try.func39 rfl (by simp only [List.length_cons, List.length_nil, Try.ntmps39]; omega) (by kernel_rfl) rfl ?_
  refine Exec.reg ?_
  iterate 3 (refine Run.o ?_)
  refine Run.nil ?_
  refine Exec.assocS ?_
  refine Exec.reg ?_
  refine Run.o ?_
  refine Run.cal (c_proofs s) (by simp only [go_sem]) (by simp only [go_sem] <;> rfl) (by exact ⟨WkR.fpt rfl, trivial⟩) (fr0) (by simp only [go_sem] <;> rfl) ?_
  refine Run.nil ?_
  refine Exec.blk ?_
  refine Exec.rangeL 70 [.pt [.pt (encStk s)]] 900 (prV s) [1, 2, 3, 10] [1, 2, 3, 900, 901] (fun k => [.obj 900 (.arr 70 6 ((rws s (stAt s k)).map encRow))]) (fun k => ∀ j, j < k → prErr s j = 0) (fun k => by simp only [go_sem] <;> rfl) (by simp only [go_sem] <;> rfl) (fun _ => by rfl) (fun _ => by rfl) rfl (by simp only [go_sem] <;> rfl) (by simp only [go_sem]) (c_proofs_1 s hps) (by decide +kernel) ?_ (fun k v hv hX => ?_) (fun hX => ?_)
  · exact fun j hj => absurd hj (by omega)
  · skip
    obtain ⟨n, hn, rfl⟩ := prV_get hv
    have hlt : k < s.ps.length := by have := (List.getElem?_eq_some_iff.1 hn).1; rw [ord_len] at this; exact this
    have hng : (ordI s).getD k 0 = n := getD_of hn
    have hnl := ord_lt hn
    have hpm := prOf_mem hnl
    generalize hp : prOf s n = p at hpm
    have htb := tmb_st v k (by omega)
    have hll := htb.len
    have hrl := rws_len hll
    have hpv := v.prf p hpm
    have hpa : aftT s p (stAt s k) = stAt s (k + 1) := by show _ = aftT s (prOf s ((ordI s).getD k 0)) (stAt s k); rw [hng, hp]
    refine ⟨rfl, ?_⟩
    refine Exec.reg ?_
    refine Run.o1 (by simp only [go_sem, hp] <;> rfl) ?_
    refine Run.nil ?_
    refine Exec.reg1 ?_
    iterate 2 (refine Run.o1 (by simp only [go_sem, hp] <;> rfl) ?_)
    refine Run.nil ?_
    refine ⟨rfl, ?_⟩
    refine Exec.blk1 ?_
    refine Exec.assocS ?_
    refine Exec.reg ?_
    iterate 4 (refine Run.o1 (by simp only [go_sem, hp] <;> rfl) ?_)
    refine Run.nil ?_
    refine Exec.blk ?_
    refine Exec.forA [1, 2, 3, 4, 5, 10, 14, 15, 16] [1, 2, 3, 5, 900, 901] (p.seals.length) (fun j => [.slot 16 (.int j)]) (fun j => ∀ i, i < j → sealErr s (stAt s k) p i = 0) (fun j => by simp only [go_sem] <;> rfl) (by simp only [go_sem, hp] <;> rfl) ?_ (fun j hj Xj => ?_)
    · exact fun i hi => absurd hi (by omega)
    · skip
      refine Exec.reg ?_
      refine Run.o1 (by simp only [go_sem, hp] <;> rfl) ?_
      refine Run.nil ?_
      refine Exec.cndS (by simp only [go_sem, hp] <;> rfl) (fun hb17 => ?_) (fun hb17 => ?_)
      · skip
        have hjl := lt_of_dec hb17
        obtain ⟨x, hx⟩ := elem_of hb17
        have hxd : p.seals.getD j 0 = x := getD_of hx
        have hfc := c_find_f s (rws s (stAt s k)) (by omega) x
        rw [hrl, rws_find hll] at hfc
        have hdt : List.drop (Int.toNat 0) (List.take j (p.seals.map encInt)) = (p.seals.take j).map encInt := by rw [List.map_take]; rfl
        refine Exec.skipS ?_
        refine Exec.blk ?_
        refine Exec.reg ?_
        refine Run.o1 (by simp only [go_sem, hp, hx, hdt] <;> rfl) ?_
        refine Run.o1 (by simp only [go_sem, hp, hx, hdt]; (try simp (disch := omega) only [if_pos]); (try simp only [go_sem, hp, hx, hdt])<;> rfl) ?_
        iterate 3 (refine Run.o1 (by simp only [go_sem, hp, hx, hdt] <;> rfl) ?_)
        refine Run.nil ?_
        by_cases hrw : rowI s x = none
        · skip
          rw [hrw] at hfc
          refine Exec.reg ?_
          iterate 2 (refine Run.o1 (by simp only [go_sem, hp, hx, hdt, findV] <;> rfl) ?_)
          refine Run.lendG [(900, 900)] (by simp only [go_sem] <;> rfl) (hfc) (by simp only [go_sem]) (.inl ⟨[], by simp only [go_sem] <;> rfl, rfl⟩) (by simp only [go_sem] <;> rfl) (by exact ⟨by first | exact WkR.pure rfl | exact WkR.of rfl rfl | exact WkR.nil _ | exact WkR.int (by first | omega | (simp; done) | (simp; omega)) | exact WkR.fptW rfl ⟨by first | exact .inl rfl | exact .inr rfl, by first | exact .inl rfl | exact .inr rfl, by first | exact .inl rfl | exact .inr rfl, by first | exact .inl rfl | exact .inr rfl, by first | exact .inl rfl | exact .inr rfl, trivial⟩, by first | exact WkR.pure rfl | exact WkR.of rfl rfl | exact WkR.nil _ | exact WkR.int (by first | omega | (simp; done) | (simp; omega)) | exact WkR.fptW rfl ⟨by first | exact .inl rfl | exact .inr rfl, by first | exact .inl rfl | exact .inr rfl, by first | exact .inl rfl | exact .inr rfl, by first | exact .inl rfl | exact .inr rfl, by first | exact .inl rfl | exact .inr rfl, trivial⟩, trivial⟩) rfl (by decide) (by first | rfl | (simp only [List.all_cons, List.all_nil, inn_bk, Bool.and_true, Bool.true_and]; done) | (simp only [List.all_cons, List.all_nil, inn_bk, Bool.and_true, Bool.true_and] <;> rfl)) (by intro p hp n hn; simp only [List.mem_cons, List.not_mem_nil, or_false] at hp; rcases hp with rfl <;> (simp [look] at hn; subst hn; simp only [go_sem] <;> rfl)) (by intro p hp; simp only [List.mem_cons, List.not_mem_nil, or_false] at hp; rcases hp with rfl <;> (first | exact ⟨_, rfl, back_refl _⟩ | exact ⟨_, rfl, _, rfl, by simp⟩ | exact ⟨_, rfl, _, rfl⟩)) (by intro p hp hn; simp only [List.mem_cons, List.not_mem_nil, or_false] at hp; rcases hp with rfl <;> simp [look] at hn) (by simp only [go_sem] <;> rfl) ?_
          refine Run.o1 (by simp only [go_sem, hp, hx, hdt, findV] <;> rfl) ?_
          refine Run.nil ?_
          refine Exec.blk1 ?_
          refine Exec.reg ?_
          iterate 3 (refine Run.o1 (by simp only [go_sem, hp, hx, hdt, findV] <;> rfl) ?_)
          refine Run.nil ?_
          refine Exec.cnd (by simp only [go_sem, hp, hx, hdt, findV] <;> rfl) (fun hb24 => ?_) (fun hb24 => ?_)
          · skip
            have hse : sealErr s (stAt s k) p j = 4 := by unfold sealErr; rw [hxd, hrw]
            have hpe : prErr s k = 4 := by unfold prErr; rw [hng, hp]; unfold prfErr; rw [firstE_some Xj (by rw [hse]; decide) hjl]; exact hse
            obtain ⟨hk1, hk2⟩ := prf_bad hX (by rw [hpe]; decide) hlt
            rw [hng, hpe] at hk2
            refine Exec.reg ?_
            iterate 3 (refine Run.o1 (by simp only [go_sem, hp, hx, hdt, findV, hk1, hk2] <;> rfl) ?_)
            refine Run.nil ?_
            refine Blk1K.ret ?_
            refine BlkK.ret ?_
            refine ForK.ret ?_
            refine BlkK.ret ?_
            refine Blk1K.ret ?_
            refine RngK.ret (by simp only [go_sem] <;> rfl) ?_
            refine BlkK.ret ?_
            exact Ends.fin [900, 901] (rs := [.cell 2 3, .cell 3 33]) rfl (by simp only [go_sem, hp, hx, hdt, findV, hk1, hk2] <;> rfl) (by simp only [go_sem, hp, hx, hdt, findV, hk1, hk2] <;> first | rfl | ((repeat' (first | with_reducible_and_instances rfl | refine st_eq ?_ ?_ ?_ | refine ret_eq ?_ | refine tup_eq ?_ | refine tm_eq ?_ ?_ | refine arr_eq ?_ | refine cells_eq ?_ | refine val_eq ?_ | refine ls_eq ?_ ?_ | refine own_eq ?_ ?_ | refine sl_eq ?_ | refine b_eq ?_ | (refine i_eq ?_; omega))); done))
          · exact absurd hb24 (by simp)
        · skip
          obtain ⟨i, hi⟩ : ∃ i, rowI s x = some i := Option.ne_none_iff_exists'.1 hrw
          have hil := (rowI_lt hi).1
          have hg := rws_get hll hil
          have hrb := v.row _ (rowOf_mem hil)
          have heb := htb.bnd (endAt (stAt s k) i) (List.mem_of_getElem? (i := i) (by rw [List.getElem?_eq_getElem (by omega)]; simp [endAt, List.getD, List.getElem?_eq_getElem (show i < (stAt s k).length by omega)]))
          rw [hi] at hfc
          refine Exec.reg ?_
          iterate 2 (refine Run.o1 (by simp only [go_sem, hp, hx, hdt, findV, hg, List.length_map, hrl] <;> rfl) ?_)
          refine Run.lendG [(900, 900)] (by simp only [go_sem] <;> rfl) (hfc) (by simp only [go_sem]) (.inl ⟨[], by simp only [go_sem] <;> rfl, rfl⟩) (by simp only [go_sem] <;> rfl) (by exact ⟨by first | exact WkR.pure rfl | exact WkR.of rfl rfl | exact WkR.nil _ | exact WkR.int (by first | omega | (simp; done) | (simp; omega)) | exact WkR.fptW rfl ⟨by first | exact .inl rfl | exact .inr rfl, by first | exact .inl rfl | exact .inr rfl, by first | exact .inl rfl | exact .inr rfl, by first | exact .inl rfl | exact .inr rfl, by first | exact .inl rfl | exact .inr rfl, trivial⟩, by first | exact WkR.pure rfl | exact WkR.of rfl rfl | exact WkR.nil _ | exact WkR.int (by first | omega | (simp; done) | (simp; omega)) | exact WkR.fptW rfl ⟨by first | exact .inl rfl | exact .inr rfl, by first | exact .inl rfl | exact .inr rfl, by first | exact .inl rfl | exact .inr rfl, by first | exact .inl rfl | exact .inr rfl, by first | exact .inl rfl | exact .inr rfl, trivial⟩, trivial⟩) rfl (by decide) (by first | rfl | (simp only [List.all_cons, List.all_nil, inn_bk, Bool.and_true, Bool.true_and]; done) | (simp only [List.all_cons, List.all_nil, inn_bk, Bool.and_true, Bool.true_and] <;> rfl)) (by intro p hp n hn; simp only [List.mem_cons, List.not_mem_nil, or_false] at hp; rcases hp with rfl <;> (simp [look] at hn; subst hn; simp only [go_sem] <;> rfl)) (by intro p hp; simp only [List.mem_cons, List.not_mem_nil, or_false] at hp; rcases hp with rfl <;> (first | exact ⟨_, rfl, back_refl _⟩ | exact ⟨_, rfl, _, rfl, by simp⟩ | exact ⟨_, rfl, _, rfl⟩)) (by intro p hp hn; simp only [List.mem_cons, List.not_mem_nil, or_false] at hp; rcases hp with rfl <;> simp [look] at hn) (by simp only [go_sem] <;> rfl) ?_
          refine Run.o1 (by simp only [go_sem, hp, hx, hdt, findV, hg, List.length_map, hrl] <;> rfl) ?_
          refine Run.nil ?_
          refine Exec.blk1 ?_
          refine Exec.reg ?_
          iterate 3 (refine Run.o1 (by simp only [go_sem, hp, hx, hdt, findV, hg, List.length_map, hrl] <;> rfl) ?_)
          refine Run.nil ?_
          refine Exec.cnd (by simp only [go_sem, hp, hx, hdt, findV, hg, List.length_map, hrl] <;> rfl) (fun hb24 => ?_) (fun hb24 => ?_)
          · exact absurd hb24 (by simp)
          · skip
            refine Exec.opk 11 ?_
            refine OpenK.o1 (by simp only [go_sem, hp, hx, hdt, findV, hg, List.length_map, hrl] <;> rfl) ?_
            refine OpenK.o1 (by simp only [go_sem, hp, hx, hdt, findV, hg, List.length_map, hrl] <;> rfl) ?_
            refine OpenK.o1 (by simp only [go_sem, hp, hx, hdt, findV, hg, List.length_map, hrl] <;> rfl) ?_
            refine OpenK.o1 (by simp only [go_sem, hp, hx, hdt, findV, hg, List.length_map, hrl] <;> rfl) ?_
            refine OpenK.o1 (by simp only [go_sem, hp, hx, hdt, findV, hg, List.length_map, hrl] <;> rfl) ?_
            refine OpenK.o1 (by simp only [go_sem, hp, hx, hdt, findV, hg, List.length_map, hrl] <;> rfl) ?_
            refine OpenK.o1 (by simp only [go_sem, hp, hx, hdt, findV, hg, List.length_map, hrl] <;> rfl) ?_
            refine OpenK.o1 (by simp only [go_sem, hp, hx, hdt, findV, hg, List.length_map, hrl] <;> rfl) ?_
            refine OpenK.o1 (by simp only [go_sem, hp, hx, hdt, findV, hg, List.length_map, hrl] <;> rfl) ?_
            refine OpenK.nil (OpenE.fin (by decide +kernel) (by decide +kernel) ?_)
            refine Exec.cnd (by simp only [go_sem, hp, hx, hdt, findV, hg, List.length_map, hrl] <;> rfl) (fun hb28 => ?_) (fun hb28 => ?_)
            · skip
              have hse : sealErr s (stAt s k) p j = 11 := by unfold sealErr; rw [hxd, hi]; exact if_pos (by simpa using hb28)
              have hpe : prErr s k = 11 := by unfold prErr; rw [hng, hp]; unfold prfErr; rw [firstE_some Xj (by rw [hse]; decide) hjl]; exact hse
              obtain ⟨hk1, hk2⟩ := prf_bad hX (by rw [hpe]; decide) hlt
              rw [hng, hpe] at hk2
              refine Exec.reg ?_
              iterate 3 (refine Run.o1 (by simp only [go_sem, hp, hx, hdt, findV, hg, List.length_map, hrl, hk1, hk2] <;> rfl) ?_)
              refine Run.nil ?_
              refine Blk1K.ret ?_
              refine BlkK.ret ?_
              refine ForK.ret ?_
              refine BlkK.ret ?_
              refine Blk1K.ret ?_
              refine RngK.ret (by simp only [go_sem] <;> rfl) ?_
              refine BlkK.ret ?_
              exact Ends.fin [900, 901] (rs := [.cell 2 3, .cell 3 33]) rfl (by simp only [go_sem, hp, hx, hdt, findV, hg, List.length_map, hrl, hk1, hk2] <;> rfl) (by simp only [go_sem, hp, hx, hdt, findV, hg, List.length_map, hrl, hk1, hk2] <;> first | rfl | ((repeat' (first | with_reducible_and_instances rfl | refine st_eq ?_ ?_ ?_ | refine ret_eq ?_ | refine tup_eq ?_ | refine tm_eq ?_ ?_ | refine arr_eq ?_ | refine cells_eq ?_ | refine val_eq ?_ | refine ls_eq ?_ ?_ | refine own_eq ?_ ?_ | refine sl_eq ?_ | refine b_eq ?_ | (refine i_eq ?_; omega))); done))
            · skip
              have hcl : ¬ (rowOf s i).cl ≠ p.cl := by simpa using hb28
              refine Exec.reg ?_
              iterate 3 (refine Run.o1 (by simp only [go_sem, hp, hx, hdt, findV, hg, List.length_map, hrl] <;> rfl) ?_)
              refine Run.o1 (by simp only [go_sem, hp, hx, hdt, findV, hg, List.length_map, hrl]; (try simp (disch := omega) only [if_pos]); (try simp only [go_sem, hp, hx, hdt, findV, hg, List.length_map, hrl])<;> rfl) ?_
              refine Run.o1 (by simp only [go_sem, hp, hx, hdt, findV, hg, List.length_map, hrl] <;> rfl) ?_
              refine Run.c1 (c_Contains_int (p.seals.take j) x (by rw [List.length_take]; omega)) (by simp only [go_sem, hp, hx, hdt, findV, hg, List.length_map, hrl] <;> rfl) (by simp only [go_sem, hp, hx, hdt, findV, hg, List.length_map, hrl] <;> rfl) ?_
              refine Run.o1 (by simp only [go_sem, hp, hx, hdt, findV, hg, List.length_map, hrl] <;> rfl) ?_
              refine Run.nil ?_
              refine Exec.cnd (by simp only [go_sem, hp, hx, hdt, findV, hg, List.length_map, hrl] <;> rfl) (fun hb38 => ?_) (fun hb38 => ?_)
              · skip
                have hse : sealErr s (stAt s k) p j = 5 := by unfold sealErr; rw [hxd, hi]; simp only []; rw [if_neg hcl, if_pos hb38]
                have hpe : prErr s k = 5 := by unfold prErr; rw [hng, hp]; unfold prfErr; rw [firstE_some Xj (by rw [hse]; decide) hjl]; exact hse
                obtain ⟨hk1, hk2⟩ := prf_bad hX (by rw [hpe]; decide) hlt
                rw [hng, hpe] at hk2
                refine Exec.reg ?_
                iterate 3 (refine Run.o1 (by simp only [go_sem, hp, hx, hdt, findV, hg, List.length_map, hrl, hk1, hk2] <;> rfl) ?_)
                refine Run.nil ?_
                refine Blk1K.ret ?_
                refine BlkK.ret ?_
                refine ForK.ret ?_
                refine BlkK.ret ?_
                refine Blk1K.ret ?_
                refine RngK.ret (by simp only [go_sem] <;> rfl) ?_
                refine BlkK.ret ?_
                exact Ends.fin [900, 901] (rs := [.cell 2 3, .cell 3 33]) rfl (by simp only [go_sem, hp, hx, hdt, findV, hg, List.length_map, hrl, hk1, hk2] <;> rfl) (by simp only [go_sem, hp, hx, hdt, findV, hg, List.length_map, hrl, hk1, hk2] <;> first | rfl | ((repeat' (first | with_reducible_and_instances rfl | refine st_eq ?_ ?_ ?_ | refine ret_eq ?_ | refine tup_eq ?_ | refine tm_eq ?_ ?_ | refine arr_eq ?_ | refine cells_eq ?_ | refine val_eq ?_ | refine ls_eq ?_ ?_ | refine own_eq ?_ ?_ | refine sl_eq ?_ | refine b_eq ?_ | (refine i_eq ?_; omega))); done))
              · skip
                by_cases hfo : inForce (rowOf s i) (endAt (stAt s k) i).1 p.day = true
                · skip
                  refine Exec.reg ?_
                  iterate 3 (refine Run.o1 (by simp only [go_sem, hp, hx, hdt, findV, hg, List.length_map, hrl, hfo] <;> rfl) ?_)
                  refine Run.lendG [(900, 900)] (by simp only [go_sem] <;> rfl) (c_row_force_l (rws s (stAt s k)) s.rs.length i hrl (rowOf s i, endAt (stAt s k) i) hg p.day (by simp only; omega)) (by simp only [go_sem]) (.inl ⟨[], by simp only [go_sem] <;> rfl, rfl⟩) (by simp only [go_sem] <;> rfl) (by exact ⟨by first | exact WkR.pure rfl | exact WkR.of rfl rfl | exact WkR.nil _ | exact WkR.int (by first | omega | (simp; done) | (simp; omega)) | exact WkR.fptW rfl ⟨by first | exact .inl rfl | exact .inr rfl, by first | exact .inl rfl | exact .inr rfl, by first | exact .inl rfl | exact .inr rfl, by first | exact .inl rfl | exact .inr rfl, by first | exact .inl rfl | exact .inr rfl, by first | exact .inl rfl | exact .inr rfl, trivial⟩, by first | exact WkR.pure rfl | exact WkR.of rfl rfl | exact WkR.nil _ | exact WkR.int (by first | omega | (simp; done) | (simp; omega)) | exact WkR.fptW rfl ⟨by first | exact .inl rfl | exact .inr rfl, by first | exact .inl rfl | exact .inr rfl, by first | exact .inl rfl | exact .inr rfl, by first | exact .inl rfl | exact .inr rfl, by first | exact .inl rfl | exact .inr rfl, by first | exact .inl rfl | exact .inr rfl, trivial⟩, trivial⟩) rfl (by decide) (by first | rfl | (simp only [List.all_cons, List.all_nil, inn_bk, Bool.and_true, Bool.true_and]; done) | (simp only [List.all_cons, List.all_nil, inn_bk, Bool.and_true, Bool.true_and] <;> rfl)) (by intro p hp n hn; simp only [List.mem_cons, List.not_mem_nil, or_false] at hp; rcases hp with rfl <;> (simp [look] at hn; subst hn; simp only [go_sem] <;> rfl)) (by intro p hp; simp only [List.mem_cons, List.not_mem_nil, or_false] at hp; rcases hp with rfl <;> (first | exact ⟨_, rfl, back_refl _⟩ | exact ⟨_, rfl, _, rfl, by simp⟩ | exact ⟨_, rfl, _, rfl⟩)) (by intro p hp hn; simp only [List.mem_cons, List.not_mem_nil, or_false] at hp; rcases hp with rfl <;> simp [look] at hn) (by simp only [go_sem] <;> rfl) ?_
                  iterate 2 (refine Run.o1 (by simp only [go_sem, hp, hx, hdt, findV, hg, List.length_map, hrl, hfo] <;> rfl) ?_)
                  refine Run.y1 (by simp only [go_sem, hp, hx, hdt, findV, hg, List.length_map, hrl, hfo] <;> rfl) ?_
                  refine Run.y1 (by simp only [go_sem, hp, hx, hdt, findV, hg, List.length_map, hrl, hfo] <;> rfl) ?_
                  refine Run.y1 (by simp only [go_sem, hp, hx, hdt, findV, hg, List.length_map, hrl, hfo] <;> rfl) ?_
                  refine Run.y1 (by simp only [go_sem, hp, hx, hdt, findV, hg, List.length_map, hrl, hfo] <;> rfl) ?_
                  refine Run.lendG [(901, 901)] (by simp only [go_sem] <;> rfl) (c_isBroken s.bs x p.day) (by simp only [go_sem]) (.inl ⟨[], by simp only [go_sem] <;> rfl, rfl⟩) (by simp only [go_sem, isBk_brk, hfo] <;> rfl) (by exact ⟨by first | exact WkR.pure rfl | exact WkR.of rfl rfl | exact WkR.nil _ | exact WkR.int (by first | omega | (simp; done) | (simp; omega)) | exact WkR.fptW rfl ⟨by first | exact .inl rfl | exact .inr rfl, by first | exact .inl rfl | exact .inr rfl, by first | exact .inl rfl | exact .inr rfl, by first | exact .inl rfl | exact .inr rfl, by first | exact .inl rfl | exact .inr rfl, by first | exact .inl rfl | exact .inr rfl, trivial⟩, by first | exact WkR.pure rfl | exact WkR.of rfl rfl | exact WkR.nil _ | exact WkR.int (by first | omega | (simp; done) | (simp; omega)) | exact WkR.fptW rfl ⟨by first | exact .inl rfl | exact .inr rfl, by first | exact .inl rfl | exact .inr rfl, by first | exact .inl rfl | exact .inr rfl, by first | exact .inl rfl | exact .inr rfl, by first | exact .inl rfl | exact .inr rfl, by first | exact .inl rfl | exact .inr rfl, trivial⟩, by first | exact WkR.pure rfl | exact WkR.of rfl rfl | exact WkR.nil _ | exact WkR.int (by first | omega | (simp; done) | (simp; omega)) | exact WkR.fptW rfl ⟨by first | exact .inl rfl | exact .inr rfl, by first | exact .inl rfl | exact .inr rfl, by first | exact .inl rfl | exact .inr rfl, by first | exact .inl rfl | exact .inr rfl, by first | exact .inl rfl | exact .inr rfl, by first | exact .inl rfl | exact .inr rfl, trivial⟩, trivial⟩) rfl (by decide) (by first | rfl | (simp only [List.all_cons, List.all_nil, inn_bk, Bool.and_true, Bool.true_and]; done) | (simp only [List.all_cons, List.all_nil, inn_bk, Bool.and_true, Bool.true_and] <;> rfl)) (by intro p hp n hn; simp only [List.mem_cons, List.not_mem_nil, or_false] at hp; rcases hp with rfl <;> (simp [look] at hn; subst hn; simp only [go_sem, isBk_brk, hfo] <;> rfl)) (by intro p hp; simp only [List.mem_cons, List.not_mem_nil, or_false] at hp; rcases hp with rfl <;> (first | exact ⟨_, rfl, back_refl _⟩ | exact ⟨_, rfl, _, rfl, by simp⟩ | exact ⟨_, rfl, _, rfl⟩)) (by intro p hp hn; simp only [List.mem_cons, List.not_mem_nil, or_false] at hp; rcases hp with rfl <;> simp [look] at hn) (by simp only [go_sem, isBk_brk, hfo] <;> rfl) ?_
                  iterate 2 (refine Run.o1 (by simp only [go_sem, hp, hx, hdt, findV, hg, List.length_map, hrl, hfo] <;> rfl) ?_)
                  refine Run.nil ?_
                  refine Exec.cnd (by simp only [go_sem, hp, hx, hdt, findV, hg, List.length_map, hrl, hfo] <;> rfl) (fun hb46 => ?_) (fun hb46 => ?_)
                  · skip
                    have hbk : isBrk s x p.day = true := by simpa using hb46
                    have hse : sealErr s (stAt s k) p j = 6 := by unfold sealErr; rw [hxd, hi]; simp only []; rw [if_neg hcl, if_neg (by rw [hb38]; decide), if_pos (.inr hbk)]
                    have hpe : prErr s k = 6 := by unfold prErr; rw [hng, hp]; unfold prfErr; rw [firstE_some Xj (by rw [hse]; decide) hjl]; exact hse
                    obtain ⟨hk1, hk2⟩ := prf_bad hX (by rw [hpe]; decide) hlt
                    rw [hng, hpe] at hk2
                    refine Exec.reg ?_
                    iterate 3 (refine Run.o1 (by simp only [go_sem, hp, hx, hdt, findV, hg, List.length_map, hrl, hfo, hk1, hk2] <;> rfl) ?_)
                    refine Run.nil ?_
                    refine Blk1K.ret ?_
                    refine BlkK.ret ?_
                    refine ForK.ret ?_
                    refine BlkK.ret ?_
                    refine Blk1K.ret ?_
                    refine RngK.ret (by simp only [go_sem] <;> rfl) ?_
                    refine BlkK.ret ?_
                    exact Ends.fin [900, 901] (rs := [.cell 2 3, .cell 3 33]) rfl (by simp only [go_sem, hp, hx, hdt, findV, hg, List.length_map, hrl, hfo, hk1, hk2] <;> rfl) (by simp only [go_sem, hp, hx, hdt, findV, hg, List.length_map, hrl, hfo, hk1, hk2] <;> first | rfl | ((repeat' (first | with_reducible_and_instances rfl | refine st_eq ?_ ?_ ?_ | refine ret_eq ?_ | refine tup_eq ?_ | refine tm_eq ?_ ?_ | refine arr_eq ?_ | refine cells_eq ?_ | refine val_eq ?_ | refine ls_eq ?_ ?_ | refine own_eq ?_ ?_ | refine sl_eq ?_ | refine b_eq ?_ | (refine i_eq ?_; omega))); done))
                  · skip
                    have hbk : isBrk s x p.day = false := by simpa using hb46
                    have hse : sealErr s (stAt s k) p j = 0 := by unfold sealErr; rw [hxd, hi]; simp only []; rw [if_neg hcl, if_neg (by rw [hb38]; decide), if_neg (by rw [hfo, hbk]; rintro (h | h) <;> cases h)]
                    refine Blk1K.nrm ?_
                    refine BlkK.nrm ?_
                    refine Exec.reg1 ?_
                    refine Run.o1 (by simp only [go_sem, hp, hx, hdt, findV, hg, List.length_map, hrl, hfo]; (try simp (disch := omega) only [IntWalk.i64_in, IntWalk.u64_in, if_neg, if_pos])<;> rfl) ?_
                    refine Run.o1 (by simp only [go_sem, hp, hx, hdt, findV, hg, List.length_map, hrl, hfo] <;> rfl) ?_
                    refine Run.nil ?_
                    refine ForK.nxt ?_ ?_ ?_
                    · omega
                    · exact Ghost.kp [1, 2, 3, 4, 5, 10, 14, 15, 16] [1, 2, 3, 5, 900, 901] (by simp only [go_sem, hp, hx, hdt, findV, hg, List.length_map, hrl, hfo]; first | ((repeat' (first | with_reducible_and_instances rfl | refine st_eq ?_ ?_ ?_ | refine ret_eq ?_ | refine tup_eq ?_ | refine tm_eq ?_ ?_ | refine arr_eq ?_ | refine cells_eq ?_ | refine val_eq ?_ | refine ls_eq ?_ ?_ | refine own_eq ?_ ?_ | refine sl_eq ?_ | refine b_eq ?_ | (refine i_eq ?_; omega))); done) | rfl)
                    · exact fun i hi => if e : i = j then e ▸ hse else Xj i (by omega)
                · skip
                  have hfo : inForce (rowOf s i) (endAt (stAt s k) i).1 p.day = false := by simpa using hfo
                  refine Exec.reg ?_
                  iterate 3 (refine Run.o1 (by simp only [go_sem, hp, hx, hdt, findV, hg, List.length_map, hrl, hfo] <;> rfl) ?_)
                  refine Run.lendG [(900, 900)] (by simp only [go_sem] <;> rfl) (c_row_force_l (rws s (stAt s k)) s.rs.length i hrl (rowOf s i, endAt (stAt s k) i) hg p.day (by simp only; omega)) (by simp only [go_sem]) (.inl ⟨[], by simp only [go_sem] <;> rfl, rfl⟩) (by simp only [go_sem] <;> rfl) (by exact ⟨by first | exact WkR.pure rfl | exact WkR.of rfl rfl | exact WkR.nil _ | exact WkR.int (by first | omega | (simp; done) | (simp; omega)) | exact WkR.fptW rfl ⟨by first | exact .inl rfl | exact .inr rfl, by first | exact .inl rfl | exact .inr rfl, by first | exact .inl rfl | exact .inr rfl, by first | exact .inl rfl | exact .inr rfl, by first | exact .inl rfl | exact .inr rfl, by first | exact .inl rfl | exact .inr rfl, trivial⟩, by first | exact WkR.pure rfl | exact WkR.of rfl rfl | exact WkR.nil _ | exact WkR.int (by first | omega | (simp; done) | (simp; omega)) | exact WkR.fptW rfl ⟨by first | exact .inl rfl | exact .inr rfl, by first | exact .inl rfl | exact .inr rfl, by first | exact .inl rfl | exact .inr rfl, by first | exact .inl rfl | exact .inr rfl, by first | exact .inl rfl | exact .inr rfl, by first | exact .inl rfl | exact .inr rfl, trivial⟩, trivial⟩) rfl (by decide) (by first | rfl | (simp only [List.all_cons, List.all_nil, inn_bk, Bool.and_true, Bool.true_and]; done) | (simp only [List.all_cons, List.all_nil, inn_bk, Bool.and_true, Bool.true_and] <;> rfl)) (by intro p hp n hn; simp only [List.mem_cons, List.not_mem_nil, or_false] at hp; rcases hp with rfl <;> (simp [look] at hn; subst hn; simp only [go_sem] <;> rfl)) (by intro p hp; simp only [List.mem_cons, List.not_mem_nil, or_false] at hp; rcases hp with rfl <;> (first | exact ⟨_, rfl, back_refl _⟩ | exact ⟨_, rfl, _, rfl, by simp⟩ | exact ⟨_, rfl, _, rfl⟩)) (by intro p hp hn; simp only [List.mem_cons, List.not_mem_nil, or_false] at hp; rcases hp with rfl <;> simp [look] at hn) (by simp only [go_sem] <;> rfl) ?_
                  iterate 2 (refine Run.o1 (by simp only [go_sem, hp, hx, hdt, findV, hg, List.length_map, hrl, hfo] <;> rfl) ?_)
                  refine Run.s ?_
                  refine Run.s ?_
                  refine Run.s ?_
                  refine Run.s ?_
                  refine Run.s ?_
                  iterate 2 (refine Run.o1 (by simp only [go_sem, hp, hx, hdt, findV, hg, List.length_map, hrl, hfo] <;> rfl) ?_)
                  refine Run.nil ?_
                  refine Exec.cnd (by simp only [go_sem, hp, hx, hdt, findV, hg, List.length_map, hrl, hfo] <;> rfl) (fun hb46 => ?_) (fun hb46 => ?_)
                  · skip
                    have hse : sealErr s (stAt s k) p j = 6 := by unfold sealErr; rw [hxd, hi]; simp only []; rw [if_neg hcl, if_neg (by rw [hb38]; decide), if_pos (.inl hfo)]
                    have hpe : prErr s k = 6 := by unfold prErr; rw [hng, hp]; unfold prfErr; rw [firstE_some Xj (by rw [hse]; decide) hjl]; exact hse
                    obtain ⟨hk1, hk2⟩ := prf_bad hX (by rw [hpe]; decide) hlt
                    rw [hng, hpe] at hk2
                    refine Exec.reg ?_
                    iterate 3 (refine Run.o1 (by simp only [go_sem, hp, hx, hdt, findV, hg, List.length_map, hrl, hfo, hk1, hk2] <;> rfl) ?_)
                    refine Run.nil ?_
                    refine Blk1K.ret ?_
                    refine BlkK.ret ?_
                    refine ForK.ret ?_
                    refine BlkK.ret ?_
                    refine Blk1K.ret ?_
                    refine RngK.ret (by simp only [go_sem] <;> rfl) ?_
                    refine BlkK.ret ?_
                    exact Ends.fin [900, 901] (rs := [.cell 2 3, .cell 3 33]) rfl (by simp only [go_sem, hp, hx, hdt, findV, hg, List.length_map, hrl, hfo, hk1, hk2] <;> rfl) (by simp only [go_sem, hp, hx, hdt, findV, hg, List.length_map, hrl, hfo, hk1, hk2] <;> first | rfl | ((repeat' (first | with_reducible_and_instances rfl | refine st_eq ?_ ?_ ?_ | refine ret_eq ?_ | refine tup_eq ?_ | refine tm_eq ?_ ?_ | refine arr_eq ?_ | refine cells_eq ?_ | refine val_eq ?_ | refine ls_eq ?_ ?_ | refine own_eq ?_ ?_ | refine sl_eq ?_ | refine b_eq ?_ | (refine i_eq ?_; omega))); done))
                  · exact absurd hb46 (by simp)
      · skip
        have hpe : prErr s k = 0 := by unfold prErr; rw [hng, hp]; unfold prfErr; rw [firstE_none.2 fun i hi => Xj i (by have := ge_of_dec hb17; omega)]; rfl
        refine Exec.exitS ?_
        refine ForK.ext ?_
        refine BlkK.hit ?_
        refine Exec.reg1 ?_
        iterate 2 (refine Run.o1 (by simp only [go_sem, hp, hpa] <;> rfl) ?_)
        refine Run.lendG [(900, 900)] (by simp only [go_sem] <;> rfl) (c_decide s v p hpm (stAt s k) htb) (by simp only [go_sem]) (.inl ⟨[], by simp only [go_sem] <;> rfl, rfl⟩) (by simp only [go_sem, hpa] <;> rfl) (by exact ⟨by first | exact WkR.pure rfl | exact WkR.of rfl rfl | exact WkR.nil _ | exact WkR.int (by first | omega | (simp; done) | (simp; omega)) | exact WkR.fptW rfl ⟨by first | exact .inl rfl | exact .inr rfl, by first | exact .inl rfl | exact .inr rfl, by first | exact .inl rfl | exact .inr rfl, by first | exact .inl rfl | exact .inr rfl, by first | exact .inl rfl | exact .inr rfl, trivial⟩, by first | exact WkR.pure rfl | exact WkR.of rfl rfl | exact WkR.nil _ | exact WkR.int (by first | omega | (simp; done) | (simp; omega)) | exact WkR.fptW rfl ⟨by first | exact .inl rfl | exact .inr rfl, by first | exact .inl rfl | exact .inr rfl, by first | exact .inl rfl | exact .inr rfl, by first | exact .inl rfl | exact .inr rfl, by first | exact .inl rfl | exact .inr rfl, trivial⟩, trivial⟩) rfl (by decide) (by first | rfl | (simp only [List.all_cons, List.all_nil, inn_bk, Bool.and_true, Bool.true_and]; done) | (simp only [List.all_cons, List.all_nil, inn_bk, Bool.and_true, Bool.true_and] <;> rfl)) (by intro p hp n hn; simp only [List.mem_cons, List.not_mem_nil, or_false] at hp; rcases hp with rfl <;> (simp [look] at hn; subst hn; simp only [go_sem, hpa] <;> rfl)) (by intro p hp; simp only [List.mem_cons, List.not_mem_nil, or_false] at hp; rcases hp with rfl <;> (exact ⟨_, rfl, _, rfl, by rw [List.length_map, List.length_map, rws_len hll, rws_len (aftT_len hll)]; exact Nat.le_refl _⟩)) (by intro p hp hn; simp only [List.mem_cons, List.not_mem_nil, or_false] at hp; rcases hp with rfl <;> simp [look] at hn) (by simp only [go_sem, hpa] <;> rfl) ?_
        refine Run.nil ?_
        refine Blk1K.nrm ?_
        refine RngK.nrm ?_ ?_
        · exact Ghost.kl [1, 2, 3, 900, 901] (by simp only [go_sem, hp, hpa]; first | ((repeat' (first | with_reducible_and_instances rfl | refine st_eq ?_ ?_ ?_ | refine ret_eq ?_ | refine tup_eq ?_ | refine tm_eq ?_ ?_ | refine arr_eq ?_ | refine cells_eq ?_ | refine val_eq ?_ | refine ls_eq ?_ ?_ | refine own_eq ?_ ?_ | refine sl_eq ?_ | refine b_eq ?_ | (refine i_eq ?_; omega))); done) | rfl)
        · exact fun j hj => if e : j = k then e ▸ hpe else hX j (by omega)
  · skip
    obtain ⟨hk1, hk2⟩ := prf_good (s := s) (by intro j hj; exact hX j (by rw [prV_len]; exact hj))
    have hvl := prV_len s
    refine BlkK.nrm ?_
    refine Exec.reg ?_
    iterate 2 (refine Run.o1 (by simp only [go_sem, hk1, hk2, hvl] <;> rfl) ?_)
    refine Run.nil ?_
    exact Ends.fin [900, 901] (rs := [.cell 2 3, .cell 3 33]) rfl (by simp only [go_sem, hk1, hk2, hvl] <;> rfl) (by simp only [go_sem, hk1, hk2, hvl] <;> first | rfl | ((repeat' (first | with_reducible_and_instances rfl | refine st_eq ?_ ?_ ?_ | refine ret_eq ?_ | refine tup_eq ?_ | refine tm_eq ?_ ?_ | refine arr_eq ?_ | refine cells_eq ?_ | refine val_eq ?_ | refine ls_eq ?_ ?_ | refine own_eq ?_ ?_ | refine sl_eq ?_ | refine b_eq ?_ | (refine i_eq ?_; omega))); done))

end Go.Mw

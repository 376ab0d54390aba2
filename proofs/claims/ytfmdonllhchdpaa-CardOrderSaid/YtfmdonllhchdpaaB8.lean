/- Contracts of the readings of a house. -/
import Derived.Test.YtfmdonllhchdpaaB7
import Derived.Test.YtfmdonllhchdpaaB4
import Derived.Test.YtfmdonllhchdpaaB3
set_option linter.unusedSimpArgs false
set_option linter.unusedVariables false
set_option linter.unusedSectionVars false
set_option linter.deprecated false
namespace Go.Mw
open Go.Proofs
set_option maxRecDepth 20000 in
/-- slices.SortStableFunc[[]meterworks/card.numbered,meterworks/card.numbered] -/
theorem c_SortStable_numbered {g : FuncId} {ds : List D} (c : Num → Num → Int) (hg : canCall Try.prog g = true) (hc : ∀ x y, Contract Try.prog g (numV x :: numV y :: ds.map fun x => .leaf (.d x)) (.int (c x y)) []) (hw : Weak (fun x y => decide (c x y < 0))) (l : List Num) (hn : l.length ≤ 39) : Con Try.prog 56 [.leaf (.own 900 0 l.length l.length), .leaf (.d (.fn g ds))] [(900, .arr 77 4 ((l).map encNum))] (.ret (.tup []) [(900, .arr 77 4 ((isortE (fun x y => decide (c x y < 0)) l).map encNum))]) := by
  refine con_of follows_mixed Try.func56 rfl (by simp only [List.length_cons, List.length_nil, Try.ntmps56]; omega) (by kernel_rfl) rfl ?_
  refine Exec.reg1 ?_
  iterate 4 (refine Run.op (by simp only [go_sem] <;> rfl) (by simp only [go_sem] <;> rfl) ?_)
  refine Run.lendA 900 900 (c_stable_numbered c hg hc hw l hn) (by simp [len_isortE]) (by simp only [go_sem]) (by simp only [go_sem] <;> rfl) (by simp only [go_sem] <;> rfl) (by simp only [go_sem] <;> rfl) (by exact ⟨by first | exact WkR.pure rfl | exact WkR.of rfl rfl | exact WkR.nil _ | exact WkR.int (by first | omega | (simp; done) | (simp; omega)), by first | exact WkR.pure rfl | exact WkR.of rfl rfl | exact WkR.nil _ | exact WkR.int (by first | omega | (simp; done) | (simp; omega)), by first | exact WkR.pure rfl | exact WkR.of rfl rfl | exact WkR.nil _ | exact WkR.int (by first | omega | (simp; done) | (simp; omega)), trivial⟩) (by simp only [go_sem] <;> rfl) ?_
  refine Run.nil ?_
  exact Ends.fin0 [900] (rs := []) rfl (by simp only [go_sem] <;> rfl) (by simp only [go_sem] <;> first | rfl | ((repeat' (first | with_reducible_and_instances rfl | refine st_eq ?_ ?_ ?_ | refine ret_eq ?_ | refine tup_eq ?_ | refine tm_eq ?_ ?_ | refine arr_eq ?_ | refine cells_eq ?_ | refine val_eq ?_ | refine ls_eq ?_ ?_ | refine own_eq ?_ ?_ | refine sl_eq ?_ | refine b_eq ?_ | (refine i_eq ?_; omega))); done))

theorem weak_day : Weak (fun (x y : Num) => decide (cmpI x.1.day y.1.day < 0)) := by
  have h : ∀ x y : Num, decide (cmpI x.1.day y.1.day < 0) = decide (x.1.day < y.1.day) := fun x y => by
    have := dayLt_iff (a := x) (b := y)
    unfold dayLt at this
    rw [Bool.eq_iff_iff, this, decide_eq_true_iff]
  refine ⟨fun x => ?_, fun x y z h1 h2 => ?_, fun x y z h1 h2 => ?_⟩
  · rw [h]; simp
  · rw [h] at *; simp at *; omega
  · rw [h] at *; simp at *; omega
def ofV (w : Walk) (house : Int) : List (List AV) := (ofS w house).mapIdx fun k i => [.int k, numV (numOf w i)]
theorem ofV_get {w : Walk} {house : Int} {k : Nat} {v : List AV} (h : (ofV w house)[k]? = some v) : ∃ i, (ofS w house)[k]? = some i ∧ v = [.int k, numV (numOf w i)] := by
  unfold ofV at h
  rw [List.getElem?_mapIdx] at h
  cases hi : (ofS w house)[k]? with
  | none => simp [hi] at h
  | some i => exact ⟨i, rfl, by simpa [hi] using h.symm⟩
theorem ofV_drop {w : Walk} {house : Int} {k i : Nat} (h : (ofS w house)[k]? = some i) : (ofV w house).drop k = [.int k, numV (numOf w i)] :: (ofV w house).drop (k + 1) := by
  refine drop_get ?_
  unfold ofV
  rw [List.getElem?_mapIdx, h]; rfl
theorem ofV_len (w : Walk) (house : Int) : (ofV w house).length = (ofS w house).length := by unfold ofV; simp
set_option maxRecDepth 20000 in
set_option maxHeartbeats 4000000 in
/-- meterworks/card.of_1 -/
theorem c_of_1 (w : Walk) (house : Int) (h1 : w.rates.length ≤ 1000) (h2 : w.readings.length ≤ 1000) (h20 : ∀ h, (ofS w h).length ≤ 39) : Con Try.prog 55 [.leaf (.obj 900), .leaf (.d (.pt (walkD w))), .leaf (.d (.pt [.i house]))] [(900, .yl)] (lB (ofV w house)) := by
  refine con_of follows_mixed Try.func55 rfl (by simp only [List.length_cons, List.length_nil, Try.ntmps55]; omega) (by kernel_rfl) rfl ?_
  refine Exec.reg ?_
  refine Run.op (by simp only [go_sem] <;> rfl) (by simp only [go_sem] <;> rfl) ?_
  refine Run.nil ?_
  refine Exec.assocS ?_
  refine Exec.reg ?_
  refine Run.nilo 4 1000 77 4 (by simp only [go_sem] <;> rfl) (by simp only [go_sem] <;> rfl) (by omega) (by omega) (by simp only [go_sem] <;> rfl) ?_
  iterate 4 (refine Run.op (by simp only [go_sem] <;> rfl) (by simp only [go_sem] <;> rfl) ?_)
  refine Run.nil ?_
  refine Exec.blk ?_
  refine Exec.forA [0, 2, 4, 10, 11, 12] [900, 1000] (w.readings.length) (fun k => [.slot 12 (.int k), .slot 4 (.leaf (.own 1000 0 (filtN w house k).length (filtN w house k).length)), .obj 1000 (.arr 77 4 ((filtN w house k).map encNum))]) (fun _ => True) (fun k => by simp only [go_sem] <;> rfl) (by simp only [go_sem] <;> rfl) ?_ (fun k hk hX => ?_)
  · trivial
  · skip
    refine Exec.reg ?_
    refine Run.op (by simp only [go_sem] <;> rfl) (by simp only [go_sem] <;> rfl) ?_
    refine Run.nil ?_
    refine Exec.cndS (by simp only [go_sem] <;> rfl) (fun hb13 => ?_) (fun hb13 => ?_)
    · skip
      have hlt := lt_of_dec hb13
      have hs := rd_get hlt
      have hfl : (filtN w house k).length ≤ k := by rw [len_filt]; exact len_ofN w house k
      refine Exec.skipS ?_
      refine Exec.blk ?_
      refine Exec.reg ?_
      refine Run.op (by simp only [go_sem, hs] <;> rfl) (by simp only [go_sem] <;> rfl) ?_
      refine Run.op (by simp only [go_sem, hs]; (try simp (disch := omega) only [if_pos]); (try simp only [go_sem, hs])<;> rfl) (by simp only [go_sem] <;> rfl) ?_
      iterate 4 (refine Run.op (by simp only [go_sem, hs] <;> rfl) (by simp only [go_sem] <;> rfl) ?_)
      refine Run.nil ?_
      refine Exec.reg ?_
      iterate 4 (refine Run.op (by simp only [go_sem, hs] <;> rfl) (by simp only [go_sem] <;> rfl) ?_)
      refine Run.nil ?_
      refine Exec.cnd (by simp only [go_sem, hs] <;> rfl) (fun hb20 => ?_) (fun hb20 => ?_)
      · skip
        have e : filtN w house (k + 1) = filtN w house k ++ [numOf w k] := by rw [filtN, if_pos (by simpa using hb20)]
        refine Exec.reg1 ?_
        iterate 5 (refine Run.op (by simp only [go_sem, hs] <;> rfl) (by simp only [go_sem] <;> rfl) ?_)
        refine Run.op (by simp only [go_sem, hs]; (try simp (disch := omega) only [if_pos]); (try simp only [go_sem, hs]) <;> first | (refine ite_run ⟨by (try simp only [List.length_append, List.length_drop, List.length_take, List.length_map, List.length_cons, List.length_nil, List.length_replicate, List.length_set, List.length_range, Nat.zero_add]); omega, by (try simp only [List.length_append, List.length_drop, List.length_take, List.length_map, List.length_cons, List.length_nil, List.length_replicate, List.length_set, List.length_range, Nat.zero_add]); omega, by repeat (first | exact al_nil | assumption | refine al_app ?_ ?_ | refine al_drop ?_ | refine al_take ?_ | exact al_map (fun _ => rfl) | exact al_rep rfl | refine al_cons rfl ?_)⟩ ?_; simp only [go_sem, hs] <;> rfl) | (refine ite_run ⟨by (try simp only [List.length_append, List.length_drop, List.length_take, List.length_map, List.length_cons, List.length_nil, List.length_replicate, List.length_set, List.length_range, Nat.zero_add]); omega, by repeat (first | exact al_nil | assumption | refine al_app ?_ ?_ | refine al_drop ?_ | refine al_take ?_ | exact al_map (fun _ => rfl) | exact al_rep rfl | refine al_cons rfl ?_)⟩ ?_; simp only [go_sem, hs] <;> rfl) | rfl) (by simp only [go_sem] <;> rfl) ?_
        refine Run.op (by simp only [go_sem, hs] <;> rfl) (by simp only [go_sem] <;> rfl) ?_
        refine Run.nil ?_
        refine BlkK.nrm ?_
        refine Exec.reg1 ?_
        refine Run.op (by simp only [go_sem, hs]; (try simp (disch := omega) only [IntWalk.i64_in, IntWalk.u64_in, if_neg, if_pos])<;> rfl) (by simp only [go_sem] <;> rfl) ?_
        refine Run.op (by simp only [go_sem, hs] <;> rfl) (by simp only [go_sem] <;> rfl) ?_
        refine Run.nil ?_
        refine ForK.nxt ?_ ?_ ?_
        · omega
        · exact Ghost.kp [0, 2, 4, 10, 11, 12] [900, 1000] (by simp only [go_sem, hs]; first | ((repeat' (first | with_reducible_and_instances rfl | refine st_eq ?_ ?_ ?_ | refine ret_eq ?_ | refine tup_eq ?_ | refine tm_eq ?_ ?_ | refine arr_eq ?_ | refine cells_eq ?_ | refine val_eq ?_ | refine ls_eq ?_ ?_ | refine own_eq ?_ ?_ | refine sl_eq ?_ | refine b_eq ?_ | (refine i_eq ?_; omega))); (all_goals (simp [e, numOf, encNum]))) | rfl)
        · trivial
      · skip
        have e : filtN w house (k + 1) = filtN w house k := by rw [filtN, if_neg (by simpa using hb20)]
        refine BlkK.nrm ?_
        refine Exec.reg1 ?_
        refine Run.op (by simp only [go_sem, e]; (try simp (disch := omega) only [IntWalk.i64_in, IntWalk.u64_in, if_neg, if_pos])<;> rfl) (by simp only [go_sem] <;> rfl) ?_
        refine Run.op (by simp only [go_sem, e] <;> rfl) (by simp only [go_sem] <;> rfl) ?_
        refine Run.nil ?_
        refine ForK.nxt ?_ ?_ ?_
        · omega
        · exact Ghost.kp [0, 2, 4, 10, 11, 12] [900, 1000] (by simp only [go_sem, e]; first | ((repeat' (first | with_reducible_and_instances rfl | refine st_eq ?_ ?_ ?_ | refine ret_eq ?_ | refine tup_eq ?_ | refine tm_eq ?_ ?_ | refine arr_eq ?_ | refine cells_eq ?_ | refine val_eq ?_ | refine ls_eq ?_ ?_ | refine own_eq ?_ ?_ | refine sl_eq ?_ | refine b_eq ?_ | (refine i_eq ?_; omega))); done) | rfl)
        · trivial
    · skip
      have hek : k = w.readings.length := by have := ge_of_dec hb13; omega
      subst hek
      have hsort : isortE (fun x y => decide (cmpI x.1.day y.1.day < 0)) (filtN w house w.readings.length) = (ofS w house).map (numOf w) := sort_filt w house w.readings.length
      have hfl2 : (filtN w house w.readings.length).length = (ofS w house).length := len_filt w house _
      refine Exec.exitS ?_
      refine ForK.ext ?_
      refine BlkK.hit ?_
      refine Exec.reg ?_
      refine Run.op (by simp only [go_sem] <;> rfl) (by simp only [go_sem] <;> rfl) ?_
      refine Run.lendA 900 1000 (c_SortStable_numbered (fun a b => cmpI a.1.day b.1.day) (by simp only [go_sem]) (ds := []) c_of_cmp weak_day (filtN w house w.readings.length) (by rw [len_filt]; exact h20 house)) (by simp [len_isortE]) (by simp only [go_sem]) (by simp only [go_sem] <;> rfl) (by simp only [go_sem] <;> rfl) (by simp only [go_sem] <;> rfl) (by exact ⟨by first | exact WkR.pure rfl | exact WkR.of rfl rfl | exact WkR.nil _ | exact WkR.int (by first | omega | (simp; done) | (simp; omega)), by first | exact WkR.pure rfl | exact WkR.of rfl rfl | exact WkR.nil _ | exact WkR.int (by first | omega | (simp; done) | (simp; omega)), trivial⟩) (by simp only [go_sem] <;> rfl) ?_
      refine Run.nil ?_
      refine Exec.reg ?_
      rw [hsort, hfl2]
      iterate 3 (refine Run.op (by simp only [go_sem] <;> rfl) (by simp only [go_sem] <;> rfl) ?_)
      refine Run.nil ?_
      refine Exec.blk1 ?_
      refine Exec.forY [0, 30, 31, 32] [900, 1000] ((ofS w house).length) (fun k => [.slot 32 (.int k)]) (fun k => lB ((ofV w house).drop k)) (fun _ => True) (fun k => by simp only [go_sem] <;> rfl) (by simp only [go_sem, List.drop_zero, Int.natCast_zero] <;> rfl) ?_ (fun k hk hX => ?_)
      · trivial
      · skip
        refine Exec.reg ?_
        refine Run.op (by simp only [go_sem] <;> rfl) (by simp only [go_sem] <;> rfl) ?_
        refine Run.nil ?_
        refine Exec.cndS (by simp only [go_sem] <;> rfl) (fun hb33 => ?_) (fun hb33 => ?_)
        · skip
          have hlt := lt_of_dec hb33
          obtain ⟨i, hi⟩ := elem_of hb33
          have hdr := ofV_drop hi
          have hol := len_ofS w house
          refine Exec.skipS ?_
          refine Exec.blk ?_
          refine Exec.reg ?_
          refine Run.op (by simp only [go_sem, hi] <;> rfl) (by simp only [go_sem] <;> rfl) ?_
          refine Run.op (by simp only [go_sem, hi]; (try simp (disch := omega) only [if_pos]); (try simp only [go_sem, hi])<;> rfl) (by simp only [go_sem] <;> rfl) ?_
          iterate 4 (refine Run.op (by simp only [go_sem, hi] <;> rfl) (by simp only [go_sem] <;> rfl) ?_)
          refine Run.nil ?_
          refine Exec.reg ?_
          iterate 3 (refine Run.op (by simp only [go_sem, hi] <;> rfl) (by simp only [go_sem] <;> rfl) ?_)
          refine Run.yld (args := [.int k, numV (numOf w i)]) (by simp only [go_sem] <;> rfl) (by simp only [go_sem] <;> rfl) (by simp only [go_sem, hi] <;> rfl) (by exact ⟨WkP.refl rfl, WkP.refl rfl, trivial⟩) (by simp only [hdr, lB_cons] <;> rfl) (fun t => ?_)
          refine Run.op (by simp only [go_sem, hi] <;> rfl) (by simp only [go_sem] <;> rfl) ?_
          refine Run.nil ?_
          refine Exec.cnd (by simp only [go_sem, hi] <;> rfl) (fun hb41 => ?_) (fun hb41 => ?_)
          · skip
            have ht : t = false := by simpa using hb41
            subst ht
            refine BlkK.ret ?_
            refine ForK.ret ?_
            refine Blk1K.ret ?_
            exact Ends.fin [] (rs := []) rfl (by simp only [go_sem, hi] <;> rfl) (by simp only [go_sem, hi] <;> first | rfl | ((repeat' (first | with_reducible_and_instances rfl | refine st_eq ?_ ?_ ?_ | refine ret_eq ?_ | refine tup_eq ?_ | refine tm_eq ?_ ?_ | refine arr_eq ?_ | refine cells_eq ?_ | refine val_eq ?_ | refine ls_eq ?_ ?_ | refine own_eq ?_ ?_ | refine sl_eq ?_ | refine b_eq ?_ | (refine i_eq ?_; omega))); done))
          · skip
            have ht : t = true := by simpa using hb41
            subst ht
            refine BlkK.nrm ?_
            refine Exec.reg1 ?_
            refine Run.op (by simp only [go_sem, hi]; (try simp (disch := omega) only [IntWalk.i64_in, IntWalk.u64_in, if_neg, if_pos])<;> rfl) (by simp only [go_sem] <;> rfl) ?_
            refine Run.op (by simp only [go_sem, hi] <;> rfl) (by simp only [go_sem] <;> rfl) ?_
            refine Run.nil ?_
            refine ForK.nxt ?_ ?_ ?_
            · omega
            · exact Ghost.kp [0, 30, 31, 32] [900, 1000] (by simp only [go_sem, hi]; first | ((repeat' (first | with_reducible_and_instances rfl | refine st_eq ?_ ?_ ?_ | refine ret_eq ?_ | refine tup_eq ?_ | refine tm_eq ?_ ?_ | refine arr_eq ?_ | refine cells_eq ?_ | refine val_eq ?_ | refine ls_eq ?_ ?_ | refine own_eq ?_ ?_ | refine sl_eq ?_ | refine b_eq ?_ | (refine i_eq ?_; omega))); done) | rfl)
            · trivial
        · skip
          have hke : k = (ofS w house).length := by have := ge_of_dec hb33; omega
          have hdn : (ofV w house).drop k = [] := by rw [hke, ← ofV_len]; exact List.drop_length
          refine Exec.exitS ?_
          refine ForK.ext ?_
          refine Blk1K.hit ?_
          exact Ends.fin0 [] (rs := []) rfl (by simp only [go_sem, hdn, lB_nil] <;> rfl) (by simp only [go_sem, hdn, lB_nil] <;> first | rfl | ((repeat' (first | with_reducible_and_instances rfl | refine st_eq ?_ ?_ ?_ | refine ret_eq ?_ | refine tup_eq ?_ | refine tm_eq ?_ ?_ | refine arr_eq ?_ | refine cells_eq ?_ | refine val_eq ?_ | refine ls_eq ?_ ?_ | refine own_eq ?_ ?_ | refine sl_eq ?_ | refine b_eq ?_ | (refine i_eq ?_; omega))); done))

def misV (o : Option Nat) : AV := match o with
  | some n => .tup [(false, [.d (.i n)]), (false, [.d (.raw (.bool true))])]
  | none => .tup [(false, [.d (.i 0)]), (false, [.d (.raw (.bool false))])]
theorem lastN_succ {w : Walk} {house : Int} {k i : Nat} (h : (ofS w house)[k]? = some i) : lastN w house (k + 1) = numOf w i := by
  unfold lastN; rw [if_neg (by omega), Nat.add_sub_cancel, h]; rfl
set_option maxRecDepth 20000 in
set_option maxHeartbeats 4000000 in
/-- meterworks/card.misfit -/
theorem c_card_misfit (w : Walk) (house : Nat) (h1 : w.rates.length ≤ 1000) (h2 : w.readings.length ≤ 1000) (h20 : ∀ h, (ofS w h).length ≤ 39) (hw : walkB w = true) (hh : house < w.rates.length) : Contract Try.prog 40 [walkV w, .int house] (misV (badS w house)) [] := by
  have hs := rt_get hh
  have hrt := rate_ok hw hh
  refine con_of follows_mixed Try.func40 rfl (by simp only [List.length_cons, List.length_nil, Try.ntmps40]; omega) (by kernel_rfl) rfl ?_
  refine Exec.reg ?_
  iterate 4 (refine Run.op (by simp only [go_sem, hs] <;> rfl) (by simp only [go_sem] <;> rfl) ?_)
  refine Run.nil ?_
  refine Exec.reg ?_
  refine Run.op (by simp only [go_sem, hs] <;> rfl) (by simp only [go_sem] <;> rfl) ?_
  refine Run.nil ?_
  refine Exec.assocS ?_
  refine Exec.reg ?_
  iterate 2 (refine Run.op (by simp only [go_sem, hs] <;> rfl) (by simp only [go_sem] <;> rfl) ?_)
  refine Run.cal (c_card_of w house) (by simp only [go_sem]) (by simp only [go_sem, hs] <;> rfl) (by exact ⟨by first | exact WkR.pure rfl | exact WkR.nil _ | exact WkR.int (by first | omega | (simp; done) | (simp; omega)), by first | exact WkR.pure rfl | exact WkR.nil _ | exact WkR.int (by first | omega | (simp; done) | (simp; omega)), trivial⟩) (fr0) (by simp only [go_sem, hs] <;> rfl) ?_
  refine Run.nil ?_
  refine Exec.blk ?_
  refine Exec.rangeL 55 [.pt (walkD w), .pt [.i house]] 900 (ofV w house) [2, 3, 4, 5, 6, 11] [2, 3, 4, 5, 6] (fun k => [.obj 6 (.cells [.d (.i (lastN w house k).1.house), .d (.i (lastN w house k).1.day), .d (.i (lastN w house k).1.shows), .d (.i ((lastN w house k).2 : Int))])]) (fun k => badS w house = badL w (rt w house) ((ofS w house).drop (k - 1))) (fun k => by simp only [go_sem] <;> rfl) (by simp only [go_sem, hs] <;> rfl) (fun _ => by rfl) (fun _ => by rfl) rfl (by simp only [go_sem] <;> rfl) (by simp only [go_sem]) (c_of_1 w house h1 h2 h20) (by decide +kernel) ?_ (fun k v hv hX => ?_) (fun hX => ?_)
  · rfl
  · skip
    obtain ⟨i, hi, rfl⟩ := ofV_get hv
    have hil := (mem_ofS.1 (List.mem_of_getElem? hi)).1
    have hri := read_ok hw hil
    have e : lastN w house (k + 1) = numOf w i := lastN_succ hi
    refine ⟨rfl, ?_⟩
    refine Exec.reg ?_
    refine Run.op (by simp only [go_sem, hs, e, numOf] <;> rfl) (by simp only [go_sem] <;> rfl) ?_
    refine Run.nil ?_
    refine Exec.reg1 ?_
    iterate 2 (refine Run.op (by simp only [go_sem, hs, e, numOf] <;> rfl) (by simp only [go_sem] <;> rfl) ?_)
    refine Run.nil ?_
    refine ⟨rfl, ?_⟩
    refine Exec.blk1 ?_
    refine Exec.assocS ?_
    by_cases hk0 : k = 0
    · skip
      subst hk0
      have hXn : badS w house = badL w (rt w house) ((ofS w house).drop (0 + 1 - 1)) := rfl
      have hg : decide (((0 : Nat) : Int) > 0) = false := by decide
      refine Exec.opk 28 ?_
      refine OpenK.op (by simp only [go_sem, hs, e, numOf, hg] <;> rfl) (by simp only [go_sem] <;> rfl) (by simp only [go_sem] <;> rfl) ?_
      refine OpenK.op (by simp only [go_sem, hs, e, numOf, hg] <;> rfl) (by simp only [go_sem] <;> rfl) (by simp only [go_sem] <;> rfl) ?_
      refine OpenK.op (by simp only [go_sem, hs, e, numOf, hg] <;> rfl) (by simp only [go_sem] <;> rfl) (by simp only [go_sem] <;> rfl) ?_
      refine OpenK.skp (by simp only [go_sem] <;> rfl) (by simp only [go_sem] <;> rfl) (by simp only [go_sem] <;> rfl) ?_
      refine OpenK.skp (by simp only [go_sem] <;> rfl) (by simp only [go_sem] <;> rfl) (by simp only [go_sem] <;> rfl) ?_
      refine OpenK.skp (by simp only [go_sem] <;> rfl) (by simp only [go_sem] <;> rfl) (by simp only [go_sem] <;> rfl) ?_
      refine OpenK.skp (by simp only [go_sem] <;> rfl) (by simp only [go_sem] <;> rfl) (by simp only [go_sem] <;> rfl) ?_
      refine OpenK.skp (by simp only [go_sem] <;> rfl) (by simp only [go_sem] <;> rfl) (by simp only [go_sem] <;> rfl) ?_
      refine OpenK.skp (by simp only [go_sem] <;> rfl) (by simp only [go_sem] <;> rfl) (by simp only [go_sem] <;> rfl) ?_
      refine OpenK.skp (by simp only [go_sem] <;> rfl) (by simp only [go_sem] <;> rfl) (by simp only [go_sem] <;> rfl) ?_
      refine OpenK.skp (by simp only [go_sem] <;> rfl) (by simp only [go_sem] <;> rfl) (by simp only [go_sem] <;> rfl) ?_
      refine OpenK.skp (by simp only [go_sem] <;> rfl) (by simp only [go_sem] <;> rfl) (by simp only [go_sem] <;> rfl) ?_
      refine OpenK.skp (by simp only [go_sem] <;> rfl) (by simp only [go_sem] <;> rfl) (by simp only [go_sem] <;> rfl) ?_
      refine OpenK.skp (by simp only [go_sem] <;> rfl) (by simp only [go_sem] <;> rfl) (by simp only [go_sem] <;> rfl) ?_
      refine OpenK.skp (by simp only [go_sem] <;> rfl) (by simp only [go_sem] <;> rfl) (by simp only [go_sem] <;> rfl) ?_
      refine OpenK.skp (by simp only [go_sem] <;> rfl) (by simp only [go_sem] <;> rfl) (by simp only [go_sem] <;> rfl) ?_
      refine OpenK.skp (by simp only [go_sem] <;> rfl) (by simp only [go_sem] <;> rfl) (by simp only [go_sem] <;> rfl) ?_
      refine OpenK.skp (by simp only [go_sem] <;> rfl) (by simp only [go_sem] <;> rfl) (by simp only [go_sem] <;> rfl) ?_
      refine OpenK.skp (by simp only [go_sem] <;> rfl) (by simp only [go_sem] <;> rfl) (by simp only [go_sem] <;> rfl) ?_
      refine OpenK.skp (by simp only [go_sem] <;> rfl) (by simp only [go_sem] <;> rfl) (by simp only [go_sem] <;> rfl) ?_
      refine OpenK.skp (by simp only [go_sem] <;> rfl) (by simp only [go_sem] <;> rfl) (by simp only [go_sem] <;> rfl) ?_
      refine OpenK.skp (by simp only [go_sem] <;> rfl) (by simp only [go_sem] <;> rfl) (by simp only [go_sem] <;> rfl) ?_
      refine OpenK.skp (by simp only [go_sem] <;> rfl) (by simp only [go_sem] <;> rfl) (by simp only [go_sem] <;> rfl) ?_
      refine OpenK.skp (by simp only [go_sem] <;> rfl) (by simp only [go_sem] <;> rfl) (by simp only [go_sem] <;> rfl) ?_
      refine OpenK.skp (by simp only [go_sem] <;> rfl) (by simp only [go_sem] <;> rfl) (by simp only [go_sem] <;> rfl) ?_
      refine OpenK.op (by simp only [go_sem, hs, e, numOf, hg] <;> rfl) (by simp only [go_sem] <;> rfl) (by simp only [go_sem] <;> rfl) ?_
      refine OpenK.nil (OpenE.finT (by kernel_rfl) (by kernel_rfl) (by kernel_rfl) ?_)
      refine Exec.cndS (by simp only [go_sem, hs, e, numOf, hg] <;> rfl) (fun hb39 => ?_) (fun hb39 => ?_)
      · exact absurd hb39 (by simp)
      · skip
        refine Exec.skipS ?_
        refine Exec.reg1 ?_
        iterate 2 (refine Run.op (by simp only [go_sem, hs, e, numOf, hg] <;> rfl) (by simp only [go_sem] <;> rfl) ?_)
        refine Run.nil ?_
        refine Blk1K.nrm ?_
        refine RngK.nrm ?_ ?_
        · exact Ghost.kl [2, 3, 4, 5, 6] (by simp only [go_sem, hs, e, numOf, hg]; first | ((repeat' (first | with_reducible_and_instances rfl | refine st_eq ?_ ?_ ?_ | refine ret_eq ?_ | refine tup_eq ?_ | refine tm_eq ?_ ?_ | refine arr_eq ?_ | refine cells_eq ?_ | refine val_eq ?_ | refine ls_eq ?_ ?_ | refine own_eq ?_ ?_ | refine sl_eq ?_ | refine b_eq ?_ | (refine i_eq ?_; omega))); done) | rfl)
        · exact hXn
    · skip
      obtain ⟨p, hp⟩ : ∃ p, (ofS w house)[k - 1]? = some p := ⟨_, List.getElem?_eq_getElem (by have := (List.getElem?_eq_some_iff.1 hi).1; omega)⟩
      have hpl := (mem_ofS.1 (List.mem_of_getElem? hp)).1
      have hrp := read_ok hw hpl
      have hla : lastN w house k = numOf w p := by unfold lastN; rw [if_neg hk0, hp]; rfl
      have hasc := asc_ofS w house (k - 1) k p i (by omega) hp hi
      have htw := two_taken (s := rt w house) hasc
      have hstep := badL_at (w := w) (s := rt w house) hp (show (ofS w house)[k - 1 + 1]? = some i by rw [show k - 1 + 1 = k by omega]; exact hi)
      have hg : decide ((k : Int) > 0) = true := by simp; omega
      refine Exec.opk 28 ?_
      refine OpenK.op (by simp only [go_sem, hs, e, numOf, hg, hla, htw] <;> rfl) (by simp only [go_sem] <;> rfl) (by simp only [go_sem] <;> rfl) ?_
      refine OpenK.op (by simp only [go_sem, hs, e, numOf, hg, hla, htw] <;> rfl) (by simp only [go_sem] <;> rfl) (by simp only [go_sem] <;> rfl) ?_
      refine OpenK.op (by simp only [go_sem, hs, e, numOf, hg, hla, htw] <;> rfl) (by simp only [go_sem] <;> rfl) (by simp only [go_sem] <;> rfl) ?_
      refine OpenK.yes (by simp only [go_sem] <;> rfl) (by simp only [go_sem, hs, e, numOf, hg, hla, htw] <;> rfl) (by simp only [go_sem] <;> rfl) (by simp only [go_sem] <;> rfl) ?_
      refine OpenK.yes (by simp only [go_sem] <;> rfl) (by simp only [go_sem, hs, e, numOf, hg, hla, htw] <;> rfl) (by simp only [go_sem] <;> rfl) (by simp only [go_sem] <;> rfl) ?_
      refine OpenK.yes (by simp only [go_sem] <;> rfl) (by simp only [go_sem, hs, e, numOf, hg, hla, htw] <;> rfl) (by simp only [go_sem] <;> rfl) (by simp only [go_sem] <;> rfl) ?_
      refine OpenK.yes (by simp only [go_sem] <;> rfl) (by simp only [go_sem, hs, e, numOf, hg, hla, htw]; (try simp (disch := omega) only [if_pos]); (try simp only [go_sem, hs, e, numOf, hg, hla, htw])<;> rfl) (by simp only [go_sem] <;> rfl) (by simp only [go_sem] <;> rfl) ?_
      refine OpenK.yes (by simp only [go_sem] <;> rfl) (by simp only [go_sem, hs, e, numOf, hg, hla, htw] <;> rfl) (by simp only [go_sem] <;> rfl) (by simp only [go_sem] <;> rfl) ?_
      refine OpenK.yes (by simp only [go_sem] <;> rfl) (by simp only [go_sem, hs, e, numOf, hg, hla, htw] <;> rfl) (by simp only [go_sem] <;> rfl) (by simp only [go_sem] <;> rfl) ?_
      refine OpenK.yes (by simp only [go_sem] <;> rfl) (by simp only [go_sem, hs, e, numOf, hg, hla, htw] <;> rfl) (by simp only [go_sem] <;> rfl) (by simp only [go_sem] <;> rfl) ?_
      refine OpenK.yes (by simp only [go_sem] <;> rfl) (by simp only [go_sem, hs, e, numOf, hg, hla, htw] <;> rfl) (by simp only [go_sem] <;> rfl) (by simp only [go_sem] <;> rfl) ?_
      refine OpenK.yes (by simp only [go_sem] <;> rfl) (by simp only [go_sem, hs, e, numOf, hg, hla, htw] <;> rfl) (by simp only [go_sem] <;> rfl) (by simp only [go_sem] <;> rfl) ?_
      refine OpenK.yes (by simp only [go_sem] <;> rfl) (by simp only [go_sem, hs, e, numOf, hg, hla, htw] <;> rfl) (by simp only [go_sem] <;> rfl) (by simp only [go_sem] <;> rfl) ?_
      refine OpenK.yes (by simp only [go_sem] <;> rfl) (by simp only [go_sem, hs, e, numOf, hg, hla, htw] <;> rfl) (by simp only [go_sem] <;> rfl) (by simp only [go_sem] <;> rfl) ?_
      refine OpenK.yes (by simp only [go_sem] <;> rfl) (by simp only [go_sem, hs, e, numOf, hg, hla, htw]; (try simp (disch := omega) only [IntWalk.i64_in, IntWalk.u64_in, if_neg, if_pos])<;> rfl) (by simp only [go_sem] <;> rfl) (by simp only [go_sem] <;> rfl) ?_
      refine OpenK.calw (by simp only [go_sem] <;> rfl) (c_card_taken (rt w house) ((rd w i).day - (rd w p).day) hrt (by omega)) (by simp only [go_sem]) (by simp only [go_sem, hs, e, numOf, hg, hla, htw] <;> rfl) (by simp only [go_sem, hs, e, numOf, hg, hla, htw] <;> rfl) (by exact ⟨by first | exact WkR.pure rfl | exact WkR.nil _ | exact WkR.int (by first | omega | (simp; done) | (simp; omega)), by first | exact WkR.pure rfl | exact WkR.nil _ | exact WkR.int (by first | omega | (simp; done) | (simp; omega)), trivial⟩) (fr0) (by simp only [go_sem, hs, e, numOf, hg, hla, htw] <;> rfl) (by simp only [go_sem] <;> rfl) (by simp only [go_sem] <;> rfl) ?_
      refine OpenK.yes (by simp only [go_sem] <;> rfl) (by simp only [go_sem, hs, e, numOf, hg, hla, htw] <;> rfl) (by simp only [go_sem] <;> rfl) (by simp only [go_sem] <;> rfl) ?_
      refine OpenK.yes (by simp only [go_sem] <;> rfl) (by simp only [go_sem, hs, e, numOf, hg, hla, htw] <;> rfl) (by simp only [go_sem] <;> rfl) (by simp only [go_sem] <;> rfl) ?_
      refine OpenK.yes (by simp only [go_sem] <;> rfl) (by simp only [go_sem, hs, e, numOf, hg, hla, htw] <;> rfl) (by simp only [go_sem] <;> rfl) (by simp only [go_sem] <;> rfl) ?_
      refine OpenK.yes (by simp only [go_sem] <;> rfl) (by simp only [go_sem, hs, e, numOf, hg, hla, htw] <;> rfl) (by simp only [go_sem] <;> rfl) (by simp only [go_sem] <;> rfl) ?_
      refine OpenK.yes (by simp only [go_sem] <;> rfl) (by simp only [go_sem, hs, e, numOf, hg, hla, htw] <;> rfl) (by simp only [go_sem] <;> rfl) (by simp only [go_sem] <;> rfl) ?_
      refine OpenK.yes (by simp only [go_sem] <;> rfl) (by simp only [go_sem, hs, e, numOf, hg, hla, htw] <;> rfl) (by simp only [go_sem] <;> rfl) (by simp only [go_sem] <;> rfl) ?_
      refine OpenK.yes (by simp only [go_sem] <;> rfl) (by simp only [go_sem, hs, e, numOf, hg, hla, htw]; (try simp (disch := omega) only [IntWalk.i64_in, IntWalk.u64_in, if_neg, if_pos])<;> rfl) (by simp only [go_sem] <;> rfl) (by simp only [go_sem] <;> rfl) ?_
      refine OpenK.calw (by simp only [go_sem] <;> rfl) (c_bounds_has _ _) (by simp only [go_sem]) (by simp only [go_sem, hs, e, numOf, hg, hla, htw] <;> rfl) (by simp only [go_sem, hs, e, numOf, hg, hla, htw] <;> rfl) (by exact ⟨by first | exact WkR.pure rfl | exact WkR.nil _ | exact WkR.int (by first | omega | (simp; done) | (simp; omega)), by first | exact WkR.pure rfl | exact WkR.nil _ | exact WkR.int (by first | omega | (simp; done) | (simp; omega)), trivial⟩) (fr0) (by simp only [go_sem, hs, e, numOf, hg, hla, htw] <;> rfl) (by simp only [go_sem] <;> rfl) (by simp only [go_sem] <;> rfl) ?_
      refine OpenK.yes (by simp only [go_sem] <;> rfl) (by simp only [go_sem, hs, e, numOf, hg, hla, htw] <;> rfl) (by simp only [go_sem] <;> rfl) (by simp only [go_sem] <;> rfl) ?_
      refine OpenK.op (by simp only [go_sem, hs, e, numOf, hg, hla, htw] <;> rfl) (by simp only [go_sem] <;> rfl) (by simp only [go_sem] <;> rfl) ?_
      refine OpenK.nil (OpenE.finT (by kernel_rfl) (by kernel_rfl) (by kernel_rfl) ?_)
      refine Exec.cndS (by simp only [go_sem, hs, e, numOf, hg, hla, htw] <;> rfl) (fun hb39 => ?_) (fun hb39 => ?_)
      · skip
        have hr : badS w house = some i := by rw [hX, hstep, if_neg (by simpa using hb39)]
        refine Exec.assocS ?_
        refine Exec.reg ?_
        iterate 4 (refine Run.op (by simp only [go_sem, misV, hr, numOf] <;> rfl) (by simp only [go_sem] <;> rfl) ?_)
        refine Run.nil ?_
        refine Exec.retS ?_
        refine Blk1K.ret ?_
        refine RngK.ret (by simp only [go_sem] <;> rfl) ?_
        refine BlkK.ret ?_
        exact Ends.fin [] (rs := [.cell 4 3, .cell 5 4]) rfl (by simp only [go_sem, misV, hr, numOf] <;> rfl) (by simp only [go_sem, misV, hr, numOf] <;> first | rfl | ((repeat' (first | with_reducible_and_instances rfl | refine st_eq ?_ ?_ ?_ | refine ret_eq ?_ | refine tup_eq ?_ | refine tm_eq ?_ ?_ | refine arr_eq ?_ | refine cells_eq ?_ | refine val_eq ?_ | refine ls_eq ?_ ?_ | refine own_eq ?_ ?_ | refine sl_eq ?_ | refine b_eq ?_ | (refine i_eq ?_; omega))); done))
      · skip
        have hXn : badS w house = badL w (rt w house) ((ofS w house).drop (k + 1 - 1)) := by rw [hX, hstep, if_pos (by simpa using hb39)]; congr 2; omega
        refine Exec.skipS ?_
        refine Exec.reg1 ?_
        iterate 2 (refine Run.op (by simp only [go_sem, hs, e, numOf, hg, hla, htw] <;> rfl) (by simp only [go_sem] <;> rfl) ?_)
        refine Run.nil ?_
        refine Blk1K.nrm ?_
        refine RngK.nrm ?_ ?_
        · exact Ghost.kl [2, 3, 4, 5, 6] (by simp only [go_sem, hs, e, numOf, hg, hla, htw]; first | ((repeat' (first | with_reducible_and_instances rfl | refine st_eq ?_ ?_ ?_ | refine ret_eq ?_ | refine tup_eq ?_ | refine tm_eq ?_ ?_ | refine arr_eq ?_ | refine cells_eq ?_ | refine val_eq ?_ | refine ls_eq ?_ ?_ | refine own_eq ?_ ?_ | refine sl_eq ?_ | refine b_eq ?_ | (refine i_eq ?_; omega))); done) | rfl)
        · exact hXn
  · skip
    have hr : badS w house = none := by rw [hX, badL_end (by rw [ofV_len]; omega)]
    refine BlkK.nrm ?_
    refine Exec.reg ?_
    iterate 2 (refine Run.op (by simp only [go_sem, misV, hr] <;> rfl) (by simp only [go_sem] <;> rfl) ?_)
    refine Run.nil ?_
    exact Ends.fin [] (rs := [.cell 4 3, .cell 5 4]) rfl (by simp only [go_sem, misV, hr] <;> rfl) (by simp only [go_sem, misV, hr] <;> first | rfl | ((repeat' (first | with_reducible_and_instances rfl | refine st_eq ?_ ?_ ?_ | refine ret_eq ?_ | refine tup_eq ?_ | refine tm_eq ?_ ?_ | refine arr_eq ?_ | refine cells_eq ?_ | refine val_eq ?_ | refine ls_eq ?_ ?_ | refine own_eq ?_ ?_ | refine sl_eq ?_ | refine b_eq ?_ | (refine i_eq ?_; omega))); done))

end Go.Mw
namespace Go.Mw
open Go.Proofs
def misV3 (o : Option (Nat × Nat)) : AV := match o with
  | some p => .tup [(false, [.d (.i p.1)]), (false, [.d (.i p.2)]), (false, [.d (.raw (.bool true))])]
  | none => .tup [(false, [.d (.i 0)]), (false, [.d (.i 0)]), (false, [.d (.raw (.bool false))])]
theorem bnd_taken {s : Span} {n : Int} (hs : 0 ≤ s.lo ∧ s.lo ≤ s.hi ∧ s.hi ≤ 100000) (hn : -200000 ≤ n ∧ n ≤ 200000) : (-1000000000000 ≤ (takenS s n).low ∧ (takenS s n).low ≤ 1000000000000) ∧ -1000000000000 ≤ (takenS s n).high ∧ (takenS s n).high ≤ 1000000000000 := by
  have m1 := mulB (a := s.lo) (b := n) (by omega) (by omega)
  have m2 := mulB (a := s.hi) (b := n) (by omega) (by omega)
  unfold takenS
  split <;> simp only <;> omega
theorem xSpan_taken (w : Walk) (s : Span) (day : Int) (i : Nat) : xSpan w s day i = ⟨(rd w i).shows + (takenS s (day - (rd w i).day)).low, (rd w i).shows + (takenS s (day - (rd w i).day)).high⟩ := by
  unfold xSpan takenS
  split <;> rfl
set_option maxRecDepth 20000 in
/-- meterworks/card.misfits -/
theorem c_card_misfits (w : Walk) (h1 : w.rates.length ≤ 1000) (h2 : w.readings.length ≤ 1000) (h20 : ∀ h, (ofS w h).length ≤ 39) (hw : walkB w = true) : Contract Try.prog 34 [walkV w] (misV3 (misfitsS w)) [] := by
  refine con_of follows_mixed Try.func34 rfl (by simp only [List.length_cons, List.length_nil, Try.ntmps34]; omega) (by kernel_rfl) rfl ?_
  refine Exec.reg ?_
  iterate 4 (refine Run.op (by simp only [go_sem] <;> rfl) (by simp only [go_sem] <;> rfl) ?_)
  refine Run.nil ?_
  refine Exec.assocS ?_
  refine Exec.reg ?_
  iterate 4 (refine Run.op (by simp only [go_sem] <;> rfl) (by simp only [go_sem] <;> rfl) ?_)
  refine Run.nil ?_
  refine Exec.blk ?_
  refine Exec.forA [1, 10, 11] [1] (w.rates.length) (fun k => [.slot 11 (.int k)]) (fun k => ∀ j, j < k → badS w j = none) (fun k => by simp only [go_sem] <;> rfl) (by simp only [go_sem] <;> rfl) ?_ (fun k hk hX => ?_)
  · exact fun j hj => absurd hj (by omega)
  · skip
    refine Exec.reg ?_
    refine Run.op (by simp only [go_sem] <;> rfl) (by simp only [go_sem] <;> rfl) ?_
    refine Run.nil ?_
    refine Exec.cndS (by simp only [go_sem] <;> rfl) (fun hb12 => ?_) (fun hb12 => ?_)
    · skip
      have hlt := lt_of_dec hb12
      refine Exec.skipS ?_
      refine Exec.blk ?_
      refine Exec.reg ?_
      iterate 2 (refine Run.op (by simp only [go_sem] <;> rfl) (by simp only [go_sem] <;> rfl) ?_)
      refine Run.nil ?_
      by_cases hb : badS w k = none
      · skip
        refine Exec.reg ?_
        iterate 2 (refine Run.op (by simp only [go_sem, misV, hb] <;> rfl) (by simp only [go_sem] <;> rfl) ?_)
        refine Run.cal (c_card_misfit w k h1 h2 h20 hw hlt) (by simp only [go_sem]) (by simp only [go_sem, misV, hb] <;> rfl) (by exact ⟨by first | exact WkR.pure rfl | exact WkR.nil _ | exact WkR.int (by first | omega | (simp; done) | (simp; omega)), by first | exact WkR.pure rfl | exact WkR.nil _ | exact WkR.int (by first | omega | (simp; done) | (simp; omega)), trivial⟩) (fr0) (by simp only [go_sem, misV, hb] <;> rfl) ?_
        iterate 5 (refine Run.op (by simp only [go_sem, misV, hb] <;> rfl) (by simp only [go_sem] <;> rfl) ?_)
        refine Run.nil ?_
        refine Exec.reg ?_
        refine Run.op (by simp only [go_sem, misV, hb] <;> rfl) (by simp only [go_sem] <;> rfl) ?_
        refine Run.nil ?_
        refine Exec.cnd (by simp only [go_sem, misV, hb] <;> rfl) (fun hb20 => ?_) (fun hb20 => ?_)
        · exact absurd hb20 (by simp)
        · skip
          refine BlkK.nrm ?_
          refine Exec.reg1 ?_
          refine Run.op (by simp only [go_sem, misV, hb]; (try simp (disch := omega) only [IntWalk.i64_in, IntWalk.u64_in, if_neg, if_pos])<;> rfl) (by simp only [go_sem] <;> rfl) ?_
          refine Run.op (by simp only [go_sem, misV, hb] <;> rfl) (by simp only [go_sem] <;> rfl) ?_
          refine Run.nil ?_
          refine ForK.nxt ?_ ?_ ?_
          · omega
          · exact Ghost.kp [1, 10, 11] [1] (by simp only [go_sem, misV, hb]; first | ((repeat' (first | with_reducible_and_instances rfl | refine st_eq ?_ ?_ ?_ | refine ret_eq ?_ | refine tup_eq ?_ | refine tm_eq ?_ ?_ | refine arr_eq ?_ | refine cells_eq ?_ | refine val_eq ?_ | refine ls_eq ?_ ?_ | refine own_eq ?_ ?_ | refine sl_eq ?_ | refine b_eq ?_ | (refine i_eq ?_; omega))); done) | rfl)
          · exact fun j hj => if e : j = k then e ▸ hb else hX j (by omega)
      · skip
        obtain ⟨n, hn⟩ : ∃ n, badS w k = some n := by
          cases h : badS w k with
          | none => exact absurd h hb
          | some n => exact ⟨n, rfl⟩
        have hr := misfits_at hX hlt hn
        refine Exec.reg ?_
        iterate 2 (refine Run.op (by simp only [go_sem, misV, hn, misV3, hr] <;> rfl) (by simp only [go_sem] <;> rfl) ?_)
        refine Run.cal (c_card_misfit w k h1 h2 h20 hw hlt) (by simp only [go_sem]) (by simp only [go_sem, misV, hn, misV3, hr] <;> rfl) (by exact ⟨by first | exact WkR.pure rfl | exact WkR.nil _ | exact WkR.int (by first | omega | (simp; done) | (simp; omega)), by first | exact WkR.pure rfl | exact WkR.nil _ | exact WkR.int (by first | omega | (simp; done) | (simp; omega)), trivial⟩) (fr0) (by simp only [go_sem, misV, hn, misV3, hr] <;> rfl) ?_
        iterate 5 (refine Run.op (by simp only [go_sem, misV, hn, misV3, hr] <;> rfl) (by simp only [go_sem] <;> rfl) ?_)
        refine Run.nil ?_
        refine Exec.reg ?_
        refine Run.op (by simp only [go_sem, misV, hn, misV3, hr] <;> rfl) (by simp only [go_sem] <;> rfl) ?_
        refine Run.nil ?_
        refine Exec.cnd (by simp only [go_sem, misV, hn, misV3, hr] <;> rfl) (fun hb20 => ?_) (fun hb20 => ?_)
        · skip
          refine Exec.reg ?_
          iterate 5 (refine Run.op (by simp only [go_sem, misV, hn, misV3, hr] <;> rfl) (by simp only [go_sem] <;> rfl) ?_)
          refine Run.nil ?_
          refine BlkK.ret ?_
          refine ForK.ret ?_
          refine BlkK.ret ?_
          exact Ends.fin [] (rs := [.tmp 2, .tmp 3, .tmp 4]) rfl (by simp only [go_sem, misV, hn, misV3, hr] <;> rfl) (by simp only [go_sem, misV, hn, misV3, hr] <;> first | rfl | ((repeat' (first | with_reducible_and_instances rfl | refine st_eq ?_ ?_ ?_ | refine ret_eq ?_ | refine tup_eq ?_ | refine tm_eq ?_ ?_ | refine arr_eq ?_ | refine cells_eq ?_ | refine val_eq ?_ | refine ls_eq ?_ ?_ | refine own_eq ?_ ?_ | refine sl_eq ?_ | refine b_eq ?_ | (refine i_eq ?_; omega))); done))
        · exact absurd hb20 (by simp)
    · skip
      have hr := misfits_none (w := w) (fun j hj => hX j (by have := ge_of_dec hb12; omega))
      refine Exec.exitS ?_
      refine ForK.ext ?_
      refine BlkK.hit ?_
      refine Exec.reg ?_
      iterate 3 (refine Run.op (by simp only [go_sem, misV3, hr] <;> rfl) (by simp only [go_sem] <;> rfl) ?_)
      refine Run.nil ?_
      exact Ends.fin [] (rs := [.tmp 2, .tmp 3, .tmp 4]) rfl (by simp only [go_sem, misV3, hr] <;> rfl) (by simp only [go_sem, misV3, hr] <;> first | rfl | ((repeat' (first | with_reducible_and_instances rfl | refine st_eq ?_ ?_ ?_ | refine ret_eq ?_ | refine tup_eq ?_ | refine tm_eq ?_ ?_ | refine arr_eq ?_ | refine cells_eq ?_ | refine val_eq ?_ | refine ls_eq ?_ ?_ | refine own_eq ?_ ?_ | refine sl_eq ?_ | refine b_eq ?_ | (refine i_eq ?_; omega))); done))

set_option maxRecDepth 20000 in
/-- meterworks/card.Misfit -/
theorem c_card_Misfit (w : Walk) (h1 : w.rates.length ≤ 1000) (h2 : w.readings.length ≤ 1000) (h20 : walkB w = true → ∀ h, (ofS w h).length ≤ 39) : Contract Try.prog 14 [walkV w] (tupI [(misfitR w).1, (misfitR w).2.1, (misfitR w).2.2]) [] := by
  refine con_of follows_mixed Try.func14 rfl (by simp only [List.length_cons, List.length_nil, Try.ntmps14]; omega) (by kernel_rfl) rfl ?_
  refine Exec.reg ?_
  iterate 4 (refine Run.op (by simp only [go_sem] <;> rfl) (by simp only [go_sem] <;> rfl) ?_)
  refine Run.nil ?_
  refine Exec.assocS ?_
  refine Exec.reg ?_
  refine Run.op (by simp only [go_sem] <;> rfl) (by simp only [go_sem] <;> rfl) ?_
  refine Run.cal (c_card_isWalk w h1 h2) (by simp only [go_sem]) (by simp only [go_sem] <;> rfl) (by exact ⟨by first | exact WkR.pure rfl | exact WkR.nil _ | exact WkR.int (by first | omega | (simp; done) | (simp; omega)), trivial⟩) (fr0) (by simp only [go_sem] <;> rfl) ?_
  refine Run.op (by simp only [go_sem] <;> rfl) (by simp only [go_sem] <;> rfl) ?_
  refine Run.nil ?_
  refine Exec.cndS (by simp only [go_sem] <;> rfl) (fun hb8 => ?_) (fun hb8 => ?_)
  · skip
    have hw : walkB w = false := by simpa using hb8
    have hr : misfitR w = (0, 0, 1) := by rw [misfitR, if_neg (by simp [hw])]
    refine Exec.assocS ?_
    refine Exec.reg ?_
    iterate 3 (refine Run.op (by simp only [go_sem, hr] <;> rfl) (by simp only [go_sem] <;> rfl) ?_)
    refine Run.nil ?_
    refine Exec.retS ?_
    exact Ends.fin [] (rs := [.tmp 2, .tmp 3, .tmp 4]) rfl (by simp only [go_sem, hr] <;> rfl) (by simp only [go_sem, hr] <;> first | rfl | ((repeat' (first | with_reducible_and_instances rfl | refine st_eq ?_ ?_ ?_ | refine ret_eq ?_ | refine tup_eq ?_ | refine tm_eq ?_ ?_ | refine arr_eq ?_ | refine cells_eq ?_ | refine val_eq ?_ | refine ls_eq ?_ ?_ | refine own_eq ?_ ?_ | refine sl_eq ?_ | refine b_eq ?_ | (refine i_eq ?_; omega))); done))
  · skip
    have hw : walkB w = true := by simpa using hb8
    refine Exec.skipS ?_
    by_cases hm : ∃ p, misfitsS w = some p
    · skip
      obtain ⟨⟨i, n⟩, hm⟩ := hm
      have hr : misfitR w = ((i : Int), (n : Int), 0) := by rw [misfitR, if_pos hw, hm]
      refine Exec.reg ?_
      refine Run.op (by simp only [go_sem, misV3, hm, hr] <;> rfl) (by simp only [go_sem] <;> rfl) ?_
      refine Run.cal (c_card_misfits w h1 h2 (h20 hw) hw) (by simp only [go_sem]) (by simp only [go_sem, misV3, hm, hr] <;> rfl) (by exact ⟨by first | exact WkR.pure rfl | exact WkR.nil _ | exact WkR.int (by first | omega | (simp; done) | (simp; omega)), trivial⟩) (fr0) (by simp only [go_sem, misV3, hm, hr] <;> rfl) ?_
      iterate 7 (refine Run.op (by simp only [go_sem, misV3, hm, hr] <;> rfl) (by simp only [go_sem] <;> rfl) ?_)
      refine Run.nil ?_
      refine Exec.assocS ?_
      refine Exec.reg ?_
      iterate 2 (refine Run.op (by simp only [go_sem, misV3, hm, hr] <;> rfl) (by simp only [go_sem] <;> rfl) ?_)
      refine Run.nil ?_
      refine Exec.cndS (by simp only [go_sem, misV3, hm, hr] <;> rfl) (fun hb16 => ?_) (fun hb16 => ?_)
      · exact absurd hb16 (by simp)
      · skip
        refine Exec.skipS ?_
        refine Exec.reg ?_
        iterate 5 (refine Run.op (by simp only [go_sem, misV3, hm, hr] <;> rfl) (by simp only [go_sem] <;> rfl) ?_)
        refine Run.nil ?_
        exact Ends.fin [] (rs := [.tmp 2, .tmp 3, .tmp 4]) rfl (by simp only [go_sem, misV3, hm, hr] <;> rfl) (by simp only [go_sem, misV3, hm, hr] <;> first | rfl | ((repeat' (first | with_reducible_and_instances rfl | refine st_eq ?_ ?_ ?_ | refine ret_eq ?_ | refine tup_eq ?_ | refine tm_eq ?_ ?_ | refine arr_eq ?_ | refine cells_eq ?_ | refine val_eq ?_ | refine ls_eq ?_ ?_ | refine own_eq ?_ ?_ | refine sl_eq ?_ | refine b_eq ?_ | (refine i_eq ?_; omega))); done))
    · skip
      have hm : misfitsS w = none := by
        cases h : misfitsS w with
        | none => rfl
        | some p => exact absurd ⟨p, h⟩ hm
      have hr : misfitR w = (0, 0, 4) := by rw [misfitR, if_pos hw, hm]
      refine Exec.reg ?_
      refine Run.op (by simp only [go_sem, misV3, hm, hr] <;> rfl) (by simp only [go_sem] <;> rfl) ?_
      refine Run.cal (c_card_misfits w h1 h2 (h20 hw) hw) (by simp only [go_sem]) (by simp only [go_sem, misV3, hm, hr] <;> rfl) (by exact ⟨by first | exact WkR.pure rfl | exact WkR.nil _ | exact WkR.int (by first | omega | (simp; done) | (simp; omega)), trivial⟩) (fr0) (by simp only [go_sem, misV3, hm, hr] <;> rfl) ?_
      iterate 7 (refine Run.op (by simp only [go_sem, misV3, hm, hr] <;> rfl) (by simp only [go_sem] <;> rfl) ?_)
      refine Run.nil ?_
      refine Exec.assocS ?_
      refine Exec.reg ?_
      iterate 2 (refine Run.op (by simp only [go_sem, misV3, hm, hr] <;> rfl) (by simp only [go_sem] <;> rfl) ?_)
      refine Run.nil ?_
      refine Exec.cndS (by simp only [go_sem, misV3, hm, hr] <;> rfl) (fun hb16 => ?_) (fun hb16 => ?_)
      · skip
        refine Exec.assocS ?_
        refine Exec.reg ?_
        iterate 3 (refine Run.op (by simp only [go_sem, misV3, hm, hr] <;> rfl) (by simp only [go_sem] <;> rfl) ?_)
        refine Run.nil ?_
        refine Exec.retS ?_
        exact Ends.fin [] (rs := [.tmp 2, .tmp 3, .tmp 4]) rfl (by simp only [go_sem, misV3, hm, hr] <;> rfl) (by simp only [go_sem, misV3, hm, hr] <;> first | rfl | ((repeat' (first | with_reducible_and_instances rfl | refine st_eq ?_ ?_ ?_ | refine ret_eq ?_ | refine tup_eq ?_ | refine tm_eq ?_ ?_ | refine arr_eq ?_ | refine cells_eq ?_ | refine val_eq ?_ | refine ls_eq ?_ ?_ | refine own_eq ?_ ?_ | refine sl_eq ?_ | refine b_eq ?_ | (refine i_eq ?_; omega))); done))
      · exact absurd hb16 (by simp)

set_option maxRecDepth 20000 in
set_option maxHeartbeats 4000000 in
/-- meterworks/card.Shows -/
theorem c_card_Shows (w : Walk) (house day : Int) (h1 : w.rates.length ≤ 1000) (h2 : w.readings.length ≤ 1000) (h20 : walkB w = true → ∀ h, (ofS w h).length ≤ 39) : Contract Try.prog 16 [walkV w, .int house, .int day] (showV (showsR w house day)) [] := by
  refine con_of follows_mixed Try.func16 rfl (by simp only [List.length_cons, List.length_nil, Try.ntmps16]; omega) (by kernel_rfl) rfl ?_
  refine Exec.reg ?_
  iterate 5 (refine Run.op (by simp only [go_sem] <;> rfl) (by simp only [go_sem] <;> rfl) ?_)
  refine Run.nil ?_
  refine Exec.blk ?_
  refine Exec.reg ?_
  refine Run.op (by simp only [go_sem] <;> rfl) (by simp only [go_sem] <;> rfl) ?_
  refine Run.cal (c_card_isWalk w h1 h2) (by simp only [go_sem]) (by simp only [go_sem] <;> rfl) (by exact ⟨by first | exact WkR.pure rfl | exact WkR.nil _ | exact WkR.int (by first | omega | (simp; done) | (simp; omega)), trivial⟩) (fr0) (by simp only [go_sem] <;> rfl) ?_
  iterate 2 (refine Run.op (by simp only [go_sem] <;> rfl) (by simp only [go_sem] <;> rfl) ?_)
  refine Run.nil ?_
  refine Exec.cnd (by simp only [go_sem] <;> rfl) (fun hb16 => ?_) (fun hb16 => ?_)
  · skip
    have hw : walkB w = false := by simpa using hb16
    have hr : showsR w house day = (⟨0, 0⟩, 1) := by rw [showsR, if_pos hw]
    refine Exec.reg ?_
    iterate 3 (refine Run.op (by simp only [go_sem, hr] <;> rfl) (by simp only [go_sem] <;> rfl) ?_)
    refine Run.nil ?_
    refine BlkK.ret ?_
    exact Ends.fin [] (rs := [.cell 6 32, .tmp 7]) rfl (by simp only [go_sem, hr] <;> rfl) (by simp only [go_sem, hr] <;> first | rfl | ((repeat' (first | with_reducible_and_instances rfl | refine st_eq ?_ ?_ ?_ | refine ret_eq ?_ | refine tup_eq ?_ | refine tm_eq ?_ ?_ | refine arr_eq ?_ | refine cells_eq ?_ | refine val_eq ?_ | refine ls_eq ?_ ?_ | refine own_eq ?_ ?_ | refine sl_eq ?_ | refine b_eq ?_ | (refine i_eq ?_; omega))); done))
  · skip
    have hw : walkB w = true := by simpa using hb16
    have hw0 : ¬ walkB w = false := by simp [hw]
    refine Exec.reg ?_
    iterate 4 (refine Run.op (by simp only [go_sem] <;> rfl) (by simp only [go_sem] <;> rfl) ?_)
    refine Run.op (by simp only [go_sem]; (try simp (disch := omega) only [IntWalk.i64_in, IntWalk.u64_in, if_neg, if_pos])<;> rfl) (by simp only [go_sem] <;> rfl) ?_
    refine Run.cal (c_card_within _ _ _) (by simp only [go_sem]) (by simp only [go_sem] <;> rfl) (by exact ⟨by first | exact WkR.pure rfl | exact WkR.nil _ | exact WkR.int (by first | omega | (simp; done) | (simp; omega)), by first | exact WkR.pure rfl | exact WkR.nil _ | exact WkR.int (by first | omega | (simp; done) | (simp; omega)), by first | exact WkR.pure rfl | exact WkR.nil _ | exact WkR.int (by first | omega | (simp; done) | (simp; omega)), trivial⟩) (fr0) (by simp only [go_sem] <;> rfl) ?_
    iterate 2 (refine Run.op (by simp only [go_sem] <;> rfl) (by simp only [go_sem] <;> rfl) ?_)
    refine Run.gop (by simp only [go_sem] <;> rfl) (by simp only [go_sem] <;> rfl) (by simp only [go_sem] <;> rfl) ?_
    refine Run.gcal (by simp only [go_sem] <;> rfl) (c_card_within _ _ _) (by simp only [go_sem]) (by simp only [go_sem] <;> rfl) (by exact ⟨by first | exact WkR.pure rfl | exact WkR.nil _ | exact WkR.int (by first | omega | (simp; done) | (simp; omega)), by first | exact WkR.pure rfl | exact WkR.nil _ | exact WkR.int (by first | omega | (simp; done) | (simp; omega)), by first | exact WkR.pure rfl | exact WkR.nil _ | exact WkR.int (by first | omega | (simp; done) | (simp; omega)), trivial⟩) (by simp only [go_sem] <;> rfl) ?_
    refine Run.gop (by simp only [go_sem] <;> rfl) (by simp only [go_sem] <;> rfl) (by simp only [go_sem] <;> rfl) ?_
    iterate 2 (refine Run.op (by simp only [go_sem] <;> rfl) (by simp only [go_sem] <;> rfl) ?_)
    refine Run.nil ?_
    refine Exec.cnd (by simp only [go_sem] <;> rfl) (fun hb21 => ?_) (fun hb21 => ?_)
    · skip
      have hc : inB house 0 ((w.rates.length : Int) - 1) = false ∨ inB day 0 131072 = false := by simpa using hb21
      have hr : showsR w house day = (⟨0, 0⟩, 2) := by rw [showsR, if_neg hw0, if_pos hc]
      refine Exec.reg ?_
      iterate 3 (refine Run.op (by simp only [go_sem, hr] <;> rfl) (by simp only [go_sem] <;> rfl) ?_)
      refine Run.nil ?_
      refine BlkK.ret ?_
      exact Ends.fin [] (rs := [.cell 6 32, .tmp 7]) rfl (by simp only [go_sem, hr] <;> rfl) (by simp only [go_sem, hr] <;> first | rfl | ((repeat' (first | with_reducible_and_instances rfl | refine st_eq ?_ ?_ ?_ | refine ret_eq ?_ | refine tup_eq ?_ | refine tm_eq ?_ ?_ | refine arr_eq ?_ | refine cells_eq ?_ | refine val_eq ?_ | refine ls_eq ?_ ?_ | refine own_eq ?_ ?_ | refine sl_eq ?_ | refine b_eq ?_ | (refine i_eq ?_; omega))); done))
    · skip
      have hc : inB house 0 ((w.rates.length : Int) - 1) = true ∧ inB day 0 131072 = true := by simpa using hb21
      have hc0 : ¬ (inB house 0 ((w.rates.length : Int) - 1) = false ∨ inB day 0 131072 = false) := by simp [hc.1, hc.2]
      have hc1 := inB_iff.1 hc.1
      have hc2 := inB_iff.1 hc.2
      obtain ⟨house, rfl⟩ : ∃ h' : Nat, house = h' := ⟨house.toNat, by omega⟩
      have hh : house < w.rates.length := by omega
      have hrt := rate_ok hw hh
      have hgt := rt_get hh
      refine BlkK.nrm ?_
      refine Exec.reg ?_
      iterate 2 (refine Run.op (by simp only [go_sem, hgt] <;> rfl) (by simp only [go_sem] <;> rfl) ?_)
      refine Run.nil ?_
      refine Exec.reg ?_
      refine Run.op (by simp only [go_sem, hgt] <;> rfl) (by simp only [go_sem] <;> rfl) ?_
      refine Run.nil ?_
      refine Exec.assocS ?_
      refine Exec.reg ?_
      iterate 2 (refine Run.op (by simp only [go_sem, hgt] <;> rfl) (by simp only [go_sem] <;> rfl) ?_)
      refine Run.cal (c_card_of w house) (by simp only [go_sem]) (by simp only [go_sem, hgt] <;> rfl) (by exact ⟨by first | exact WkR.pure rfl | exact WkR.nil _ | exact WkR.int (by first | omega | (simp; done) | (simp; omega)), by first | exact WkR.pure rfl | exact WkR.nil _ | exact WkR.int (by first | omega | (simp; done) | (simp; omega)), trivial⟩) (fr0) (by simp only [go_sem, hgt] <;> rfl) ?_
      refine Run.nil ?_
      refine Exec.blk ?_
      refine Exec.rangeL 55 [.pt (walkD w), .pt [.i house]] 900 (ofV w house) [3, 4, 5, 6, 8, 9, 37] [3, 4, 5, 6, 8, 9] (fun k => [.obj 8 (.cells [.d (.raw (.bool (decide (k = 0))))]), .obj 9 (.cells [.d (.i (shF w (rt w house) day (ofS w house) k).lo), .d (.i (shF w (rt w house) day (ofS w house) k).hi)])]) (fun _ => True) (fun k => by simp only [go_sem] <;> rfl) (by simp only [go_sem, hgt, shF_zero, decide_true] <;> rfl) (fun _ => by rfl) (fun _ => by rfl) rfl (by simp only [go_sem] <;> rfl) (by simp only [go_sem]) (c_of_1 w house h1 h2 (h20 hw)) (by decide +kernel) ?_ (fun k v hv hX => ?_) (fun hX => ?_)
      · trivial
      · skip
        obtain ⟨i, hi, rfl⟩ := ofV_get hv
        have hil := (mem_ofS.1 (List.mem_of_getElem? hi)).1
        have hri := read_ok hw hil
        have hbt := bnd_taken hrt (n := day - (rd w i).day) (by omega)
        have hx := xSpan_taken w (rt w house) day i
        have hd1 : decide (k + 1 = 0) = false := by simp
        refine ⟨rfl, ?_⟩
        refine Exec.reg1 ?_
        iterate 2 (refine Run.op (by simp only [go_sem, hgt, numOf] <;> rfl) (by simp only [go_sem] <;> rfl) ?_)
        refine Run.nil ?_
        refine ⟨rfl, ?_⟩
        refine Exec.blk1 ?_
        refine Exec.opk 15 ?_
        refine OpenK.op (by simp only [go_sem, hgt, numOf] <;> rfl) (by simp only [go_sem] <;> rfl) (by simp only [go_sem] <;> rfl) ?_
        refine OpenK.op (by simp only [go_sem, hgt, numOf] <;> rfl) (by simp only [go_sem] <;> rfl) (by simp only [go_sem] <;> rfl) ?_
        refine OpenK.op (by simp only [go_sem, hgt, numOf] <;> rfl) (by simp only [go_sem] <;> rfl) (by simp only [go_sem] <;> rfl) ?_
        refine OpenK.op (by simp only [go_sem, hgt, numOf]; (try simp (disch := omega) only [if_pos]); (try simp only [go_sem, hgt, numOf])<;> rfl) (by simp only [go_sem] <;> rfl) (by simp only [go_sem] <;> rfl) ?_
        refine OpenK.op (by simp only [go_sem, hgt, numOf] <;> rfl) (by simp only [go_sem] <;> rfl) (by simp only [go_sem] <;> rfl) ?_
        refine OpenK.op (by simp only [go_sem, hgt, numOf] <;> rfl) (by simp only [go_sem] <;> rfl) (by simp only [go_sem] <;> rfl) ?_
        refine OpenK.op (by simp only [go_sem, hgt, numOf] <;> rfl) (by simp only [go_sem] <;> rfl) (by simp only [go_sem] <;> rfl) ?_
        refine OpenK.op (by simp only [go_sem, hgt, numOf] <;> rfl) (by simp only [go_sem] <;> rfl) (by simp only [go_sem] <;> rfl) ?_
        refine OpenK.op (by simp only [go_sem, hgt, numOf] <;> rfl) (by simp only [go_sem] <;> rfl) (by simp only [go_sem] <;> rfl) ?_
        refine OpenK.op (by simp only [go_sem, hgt, numOf]; (try simp (disch := omega) only [IntWalk.i64_in, IntWalk.u64_in, if_neg, if_pos])<;> rfl) (by simp only [go_sem] <;> rfl) (by simp only [go_sem] <;> rfl) ?_
        refine OpenK.cal (c_card_taken (rt w house) (day - (rd w i).day) hrt (by omega)) (by simp only [go_sem]) (by simp only [go_sem, hgt, numOf] <;> rfl) (by exact ⟨by first | exact WkR.pure rfl | exact WkR.nil _ | exact WkR.int (by first | omega | (simp; done) | (simp; omega)), by first | exact WkR.pure rfl | exact WkR.nil _ | exact WkR.int (by first | omega | (simp; done) | (simp; omega)), trivial⟩) (fr0) (by simp only [go_sem, hgt, numOf] <;> rfl) (by simp only [go_sem] <;> rfl) (by simp only [go_sem] <;> rfl) ?_
        refine OpenK.op (by simp only [go_sem, hgt, numOf] <;> rfl) (by simp only [go_sem] <;> rfl) (by simp only [go_sem] <;> rfl) ?_
        refine OpenK.op (by simp only [go_sem, hgt, numOf] <;> rfl) (by simp only [go_sem] <;> rfl) (by simp only [go_sem] <;> rfl) ?_
        refine OpenK.nil (OpenE.fin (by decide +kernel) (by decide +kernel) ?_)
        refine Exec.reg ?_
        iterate 5 (refine Run.op (by simp only [go_sem, hgt, numOf] <;> rfl) (by simp only [go_sem] <;> rfl) ?_)
        refine Run.op (by simp only [go_sem, hgt, numOf]; (try simp (disch := omega) only [IntWalk.i64_in, IntWalk.u64_in, if_neg, if_pos])<;> rfl) (by simp only [go_sem] <;> rfl) ?_
        iterate 5 (refine Run.op (by simp only [go_sem, hgt, numOf] <;> rfl) (by simp only [go_sem] <;> rfl) ?_)
        refine Run.op (by simp only [go_sem, hgt, numOf]; (try simp (disch := omega) only [IntWalk.i64_in, IntWalk.u64_in, if_neg, if_pos])<;> rfl) (by simp only [go_sem] <;> rfl) ?_
        iterate 3 (refine Run.op (by simp only [go_sem, hgt, numOf] <;> rfl) (by simp only [go_sem] <;> rfl) ?_)
        refine Run.nil ?_
        refine Exec.assocS ?_
        refine Exec.reg ?_
        refine Run.op (by simp only [go_sem, hgt, numOf] <;> rfl) (by simp only [go_sem] <;> rfl) ?_
        refine Run.nil ?_
        refine Exec.cndS (by simp only [go_sem, hgt, numOf] <;> rfl) (fun hb64 => ?_) (fun hb64 => ?_)
        · skip
          have hk0 : k = 0 := of_decide_eq_true hb64
          have e := shF_succ (w := w) (s := rt w house) (day := day) hi
          rw [if_pos hk0, hx] at e
          refine Exec.reg ?_
          iterate 3 (refine Run.op (by simp only [go_sem, hgt, numOf, e, hd1] <;> rfl) (by simp only [go_sem] <;> rfl) ?_)
          refine Run.nil ?_
          refine Exec.reg1 ?_
          iterate 2 (refine Run.op (by simp only [go_sem, hgt, numOf, e, hd1] <;> rfl) (by simp only [go_sem] <;> rfl) ?_)
          refine Run.cal (c_bounds_and ⟨_, _⟩ ⟨_, _⟩) (by simp only [go_sem]) (by simp only [go_sem, hgt, numOf, e, hd1] <;> rfl) (by exact ⟨by first | exact WkR.pure rfl | exact WkR.nil _ | exact WkR.int (by first | omega | (simp; done) | (simp; omega)), by first | exact WkR.pure rfl | exact WkR.nil _ | exact WkR.int (by first | omega | (simp; done) | (simp; omega)), trivial⟩) (fr0) (by simp only [go_sem, hgt, numOf, e, hd1] <;> rfl) ?_
          refine Run.op (by simp only [go_sem, hgt, numOf, e, hd1] <;> rfl) (by simp only [go_sem] <;> rfl) ?_
          refine Run.nil ?_
          refine Blk1K.nrm ?_
          refine RngK.nrm ?_ ?_
          · exact Ghost.kl [3, 4, 5, 6, 8, 9] (by simp only [go_sem, hgt, numOf, e, hd1]; first | ((repeat' (first | with_reducible_and_instances rfl | refine st_eq ?_ ?_ ?_ | refine ret_eq ?_ | refine tup_eq ?_ | refine tm_eq ?_ ?_ | refine arr_eq ?_ | refine cells_eq ?_ | refine val_eq ?_ | refine ls_eq ?_ ?_ | refine own_eq ?_ ?_ | refine sl_eq ?_ | refine b_eq ?_ | (refine i_eq ?_; omega))); done) | rfl)
          · trivial
        · skip
          have hk0 : ¬ k = 0 := of_decide_eq_false hb64
          have e := shF_succ (w := w) (s := rt w house) (day := day) hi
          rw [if_neg hk0, hx] at e
          refine Exec.skipS ?_
          refine Exec.reg1 ?_
          iterate 2 (refine Run.op (by simp only [go_sem, hgt, numOf, hb64, e, hd1] <;> rfl) (by simp only [go_sem] <;> rfl) ?_)
          refine Run.cal (c_bounds_and ⟨_, _⟩ ⟨_, _⟩) (by simp only [go_sem]) (by simp only [go_sem, hgt, numOf, hb64, e, hd1] <;> rfl) (by exact ⟨by first | exact WkR.pure rfl | exact WkR.nil _ | exact WkR.int (by first | omega | (simp; done) | (simp; omega)), by first | exact WkR.pure rfl | exact WkR.nil _ | exact WkR.int (by first | omega | (simp; done) | (simp; omega)), trivial⟩) (fr0) (by simp only [go_sem, hgt, numOf, hb64, e, hd1] <;> rfl) ?_
          refine Run.op (by simp only [go_sem, hgt, numOf, hb64, e, hd1] <;> rfl) (by simp only [go_sem] <;> rfl) ?_
          refine Run.nil ?_
          refine Blk1K.nrm ?_
          refine RngK.nrm ?_ ?_
          · exact Ghost.kl [3, 4, 5, 6, 8, 9] (by simp only [go_sem, hgt, numOf, hb64, e, hd1]; first | ((repeat' (first | with_reducible_and_instances rfl | refine st_eq ?_ ?_ ?_ | refine ret_eq ?_ | refine tup_eq ?_ | refine tm_eq ?_ ?_ | refine arr_eq ?_ | refine cells_eq ?_ | refine val_eq ?_ | refine ls_eq ?_ ?_ | refine own_eq ?_ ?_ | refine sl_eq ?_ | refine b_eq ?_ | (refine i_eq ?_; omega))); done) | rfl)
          · trivial
      · skip
        rw [ofV_len] at *
        refine BlkK.nrm ?_
        refine Exec.assocS ?_
        refine Exec.reg ?_
        refine Run.op (by simp only [go_sem, ofV_len] <;> rfl) (by simp only [go_sem] <;> rfl) ?_
        refine Run.nil ?_
        refine Exec.cndS (by simp only [go_sem, ofV_len] <;> rfl) (fun hb69 => ?_) (fun hb69 => ?_)
        · skip
          have h0 : ofS w house = [] := List.eq_nil_of_length_eq_zero (by simpa using hb69)
          have hr : showsR w house day = (⟨0, 0⟩, 4) := by rw [showsR, if_neg hw0, if_neg hc0, if_pos h0]
          refine Exec.assocS ?_
          refine Exec.reg ?_
          iterate 3 (refine Run.op (by simp only [go_sem, ofV_len, hr] <;> rfl) (by simp only [go_sem] <;> rfl) ?_)
          refine Run.nil ?_
          refine Exec.retS ?_
          exact Ends.fin [] (rs := [.cell 6 32, .tmp 7]) rfl (by simp only [go_sem, ofV_len, hr] <;> rfl) (by simp only [go_sem, ofV_len, hr] <;> first | rfl | ((repeat' (first | with_reducible_and_instances rfl | refine st_eq ?_ ?_ ?_ | refine ret_eq ?_ | refine tup_eq ?_ | refine tm_eq ?_ ?_ | refine arr_eq ?_ | refine cells_eq ?_ | refine val_eq ?_ | refine ls_eq ?_ ?_ | refine own_eq ?_ ?_ | refine sl_eq ?_ | refine b_eq ?_ | (refine i_eq ?_; omega))); done))
        · skip
          have h0 : ¬ ofS w house = [] := fun h => by rw [h] at hb69; simp at hb69
          refine Exec.skipS ?_
          refine Exec.assocS ?_
          by_cases hm : ∃ n, badS w house = some n
          · skip
            obtain ⟨n, hm⟩ := hm
            have hr : showsR w house day = (⟨0, 0⟩, 6) := by rw [showsR, if_neg hw0, if_neg hc0, if_neg h0, if_pos (by simp [hm])]
            refine Exec.reg ?_
            iterate 2 (refine Run.op (by simp only [go_sem, ofV_len, misV, hm, hr] <;> rfl) (by simp only [go_sem] <;> rfl) ?_)
            refine Run.cal (c_card_misfit w house h1 h2 (h20 hw) hw hh) (by simp only [go_sem]) (by simp only [go_sem, ofV_len, misV, hm, hr] <;> rfl) (by exact ⟨by first | exact WkR.pure rfl | exact WkR.nil _ | exact WkR.int (by first | omega | (simp; done) | (simp; omega)), by first | exact WkR.pure rfl | exact WkR.nil _ | exact WkR.int (by first | omega | (simp; done) | (simp; omega)), trivial⟩) (fr0) (by simp only [go_sem, ofV_len, misV, hm, hr] <;> rfl) ?_
            iterate 5 (refine Run.op (by simp only [go_sem, ofV_len, misV, hm, hr] <;> rfl) (by simp only [go_sem] <;> rfl) ?_)
            refine Run.nil ?_
            refine Exec.assocS ?_
            refine Exec.reg ?_
            refine Run.op (by simp only [go_sem, ofV_len, misV, hm, hr] <;> rfl) (by simp only [go_sem] <;> rfl) ?_
            refine Run.nil ?_
            refine Exec.cndS (by simp only [go_sem, ofV_len, misV, hm, hr] <;> rfl) (fun hb77 => ?_) (fun hb77 => ?_)
            · skip
              refine Exec.assocS ?_
              refine Exec.reg ?_
              iterate 3 (refine Run.op (by simp only [go_sem, ofV_len, misV, hm, hr] <;> rfl) (by simp only [go_sem] <;> rfl) ?_)
              refine Run.nil ?_
              refine Exec.retS ?_
              exact Ends.fin [] (rs := [.cell 6 32, .tmp 7]) rfl (by simp only [go_sem, ofV_len, misV, hm, hr] <;> rfl) (by simp only [go_sem, ofV_len, misV, hm, hr] <;> first | rfl | ((repeat' (first | with_reducible_and_instances rfl | refine st_eq ?_ ?_ ?_ | refine ret_eq ?_ | refine tup_eq ?_ | refine tm_eq ?_ ?_ | refine arr_eq ?_ | refine cells_eq ?_ | refine val_eq ?_ | refine ls_eq ?_ ?_ | refine own_eq ?_ ?_ | refine sl_eq ?_ | refine b_eq ?_ | (refine i_eq ?_; omega))); done))
            · exact absurd hb77 (by simp)
          · skip
            have hm : badS w house = none := by
              cases h : badS w house with
              | none => rfl
              | some n => exact absurd ⟨n, h⟩ hm
            have hr : showsR w house day = (shF w (rt w house) day (ofS w house) (ofS w house).length, 0) := by rw [showsR, if_neg hw0, if_neg hc0, if_neg h0, if_neg (by simp [hm])]; rfl
            refine Exec.reg ?_
            iterate 2 (refine Run.op (by simp only [go_sem, ofV_len, misV, hm, hr] <;> rfl) (by simp only [go_sem] <;> rfl) ?_)
            refine Run.cal (c_card_misfit w house h1 h2 (h20 hw) hw hh) (by simp only [go_sem]) (by simp only [go_sem, ofV_len, misV, hm, hr] <;> rfl) (by exact ⟨by first | exact WkR.pure rfl | exact WkR.nil _ | exact WkR.int (by first | omega | (simp; done) | (simp; omega)), by first | exact WkR.pure rfl | exact WkR.nil _ | exact WkR.int (by first | omega | (simp; done) | (simp; omega)), trivial⟩) (fr0) (by simp only [go_sem, ofV_len, misV, hm, hr] <;> rfl) ?_
            iterate 5 (refine Run.op (by simp only [go_sem, ofV_len, misV, hm, hr] <;> rfl) (by simp only [go_sem] <;> rfl) ?_)
            refine Run.nil ?_
            refine Exec.assocS ?_
            refine Exec.reg ?_
            refine Run.op (by simp only [go_sem, ofV_len, misV, hm, hr] <;> rfl) (by simp only [go_sem] <;> rfl) ?_
            refine Run.nil ?_
            refine Exec.cndS (by simp only [go_sem, ofV_len, misV, hm, hr] <;> rfl) (fun hb77 => ?_) (fun hb77 => ?_)
            · exact absurd hb77 (by simp)
            · skip
              refine Exec.skipS ?_
              refine Exec.reg ?_
              iterate 7 (refine Run.op (by simp only [go_sem, ofV_len, misV, hm, hr] <;> rfl) (by simp only [go_sem] <;> rfl) ?_)
              refine Run.nil ?_
              exact Ends.fin [] (rs := [.cell 6 32, .tmp 7]) rfl (by simp only [go_sem, ofV_len, misV, hm, hr] <;> rfl) (by simp only [go_sem, ofV_len, misV, hm, hr] <;> first | rfl | ((repeat' (first | with_reducible_and_instances rfl | refine st_eq ?_ ?_ ?_ | refine ret_eq ?_ | refine tup_eq ?_ | refine tm_eq ?_ ?_ | refine arr_eq ?_ | refine cells_eq ?_ | refine val_eq ?_ | refine ls_eq ?_ ?_ | refine own_eq ?_ ?_ | refine sl_eq ?_ | refine b_eq ?_ | (refine i_eq ?_; omega))); done))

end Go.Mw
namespace Go.Mw
open Go.Proofs
set_option maxRecDepth 20000 in
set_option maxHeartbeats 1000000 in
/-- (meterworks/card.swap).made -/
theorem c_made_swap (l : List Reading) (hl : l.length ≤ 1000) (a b : Nat) (ra rb : Reading) (ha : l[a]? = some ra) (hb : l[b]? = some rb) (hab : a ≠ b) : Con Try.prog 86 [.val true [.d (.i a), .d (.i b)], .leaf (.own 900 0 l.length l.length)] [(900, .arr 46 3 ((l).map encReading))] (.ret (.leaf (.own 900 0 l.length l.length)) [(900, .arr 46 3 (((l.set a { ra with shows := rb.shows }).set b { rb with shows := ra.shows }).map encReading))]) := by
  have hal := (List.getElem?_eq_some_iff.1 ha).1
  have hbl := (List.getElem?_eq_some_iff.1 hb).1
  refine con_of follows_mixed Try.func86 rfl (by simp only [List.length_cons, List.length_nil, Try.ntmps86]; omega) (by kernel_rfl) rfl ?_
  refine Exec.reg ?_
  iterate 2 (refine Run.op (by simp only [go_sem, ha, hb, List.getElem?_set_ne hab] <;> rfl) (by simp only [go_sem] <;> rfl) ?_)
  refine Run.nil ?_
  refine Exec.opk 26 ?_
  refine OpenK.op (by simp only [go_sem, ha, hb, List.getElem?_set_ne hab] <;> rfl) (by simp only [go_sem] <;> rfl) (by simp only [go_sem] <;> rfl) ?_
  refine OpenK.op (by simp only [go_sem, ha, hb, List.getElem?_set_ne hab] <;> rfl) (by simp only [go_sem] <;> rfl) (by simp only [go_sem] <;> rfl) ?_
  refine OpenK.op (by simp only [go_sem, ha, hb, List.getElem?_set_ne hab] <;> rfl) (by simp only [go_sem] <;> rfl) (by simp only [go_sem] <;> rfl) ?_
  refine OpenK.op (by simp only [go_sem, ha, hb, List.getElem?_set_ne hab] <;> rfl) (by simp only [go_sem] <;> rfl) (by simp only [go_sem] <;> rfl) ?_
  refine OpenK.op (by simp only [go_sem, ha, hb, List.getElem?_set_ne hab] <;> rfl) (by simp only [go_sem] <;> rfl) (by simp only [go_sem] <;> rfl) ?_
  refine OpenK.op (by simp only [go_sem, ha, hb, List.getElem?_set_ne hab] <;> rfl) (by simp only [go_sem] <;> rfl) (by simp only [go_sem] <;> rfl) ?_
  refine OpenK.op (by simp only [go_sem, ha, hb, List.getElem?_set_ne hab] <;> rfl) (by simp only [go_sem] <;> rfl) (by simp only [go_sem] <;> rfl) ?_
  refine OpenK.op (by simp only [go_sem, ha, hb, List.getElem?_set_ne hab] <;> rfl) (by simp only [go_sem] <;> rfl) (by simp only [go_sem] <;> rfl) ?_
  refine OpenK.op (by simp only [go_sem, ha, hb, List.getElem?_set_ne hab] <;> rfl) (by simp only [go_sem] <;> rfl) (by simp only [go_sem] <;> rfl) ?_
  refine OpenK.op (by simp only [go_sem, ha, hb, List.getElem?_set_ne hab]; (try simp (disch := omega) only [if_pos]); (try simp only [go_sem, ha, hb, List.getElem?_set_ne hab])<;> rfl) (by simp only [go_sem] <;> rfl) (by simp only [go_sem] <;> rfl) ?_
  refine OpenK.op (by simp only [go_sem, ha, hb, List.getElem?_set_ne hab] <;> rfl) (by simp only [go_sem] <;> rfl) (by simp only [go_sem] <;> rfl) ?_
  refine OpenK.op (by simp only [go_sem, ha, hb, List.getElem?_set_ne hab] <;> rfl) (by simp only [go_sem] <;> rfl) (by simp only [go_sem] <;> rfl) ?_
  refine OpenK.op (by simp only [go_sem, ha, hb, List.getElem?_set_ne hab] <;> rfl) (by simp only [go_sem] <;> rfl) (by simp only [go_sem] <;> rfl) ?_
  refine OpenK.op (by simp only [go_sem, ha, hb, List.getElem?_set_ne hab] <;> rfl) (by simp only [go_sem] <;> rfl) (by simp only [go_sem] <;> rfl) ?_
  refine OpenK.op (by simp only [go_sem, ha, hb, List.getElem?_set_ne hab] <;> rfl) (by simp only [go_sem] <;> rfl) (by simp only [go_sem] <;> rfl) ?_
  refine OpenK.op (by simp only [go_sem, ha, hb, List.getElem?_set_ne hab]; (try simp (disch := omega) only [if_pos]); (try simp only [go_sem, ha, hb, List.getElem?_set_ne hab])<;> rfl) (by simp only [go_sem] <;> rfl) (by simp only [go_sem] <;> rfl) ?_
  refine OpenK.op (by simp only [go_sem, ha, hb, List.getElem?_set_ne hab] <;> rfl) (by simp only [go_sem] <;> rfl) (by simp only [go_sem] <;> rfl) ?_
  refine OpenK.op (by simp only [go_sem, ha, hb, List.getElem?_set_ne hab] <;> rfl) (by simp only [go_sem] <;> rfl) (by simp only [go_sem] <;> rfl) ?_
  refine OpenK.op (by simp only [go_sem, ha, hb, List.getElem?_set_ne hab]; (try simp (disch := omega) only [if_pos]); (try simp only [go_sem, ha, hb, List.getElem?_set_ne hab])<;> rfl) (by simp only [go_sem] <;> rfl) (by simp only [go_sem] <;> rfl) ?_
  refine OpenK.op (by simp only [go_sem, ha, hb, List.getElem?_set_ne hab] <;> rfl) (by simp only [go_sem] <;> rfl) (by simp only [go_sem] <;> rfl) ?_
  refine OpenK.op (by simp only [go_sem, ha, hb, List.getElem?_set_ne hab] <;> rfl) (by simp only [go_sem] <;> rfl) (by simp only [go_sem] <;> rfl) ?_
  refine OpenK.op (by simp only [go_sem, ha, hb, List.getElem?_set_ne hab]; (try simp (disch := omega) only [if_pos]); (try simp only [go_sem, ha, hb, List.getElem?_set_ne hab])<;> rfl) (by simp only [go_sem] <;> rfl) (by simp only [go_sem] <;> rfl) ?_
  refine OpenK.op (by simp only [go_sem, ha, hb, List.getElem?_set_ne hab] <;> rfl) (by simp only [go_sem] <;> rfl) (by simp only [go_sem] <;> rfl) ?_
  refine OpenK.op (by simp only [go_sem, ha, hb, List.getElem?_set_ne hab] <;> rfl) (by simp only [go_sem] <;> rfl) (by simp only [go_sem] <;> rfl) ?_
  refine OpenK.nil (OpenE.finT (by kernel_rfl) (by kernel_rfl) (by kernel_rfl) ?_)
  refine Exec.reg ?_
  iterate 2 (refine Run.op (by simp only [go_sem, ha, hb, List.getElem?_set_ne hab] <;> rfl) (by simp only [go_sem] <;> rfl) ?_)
  refine Run.nil ?_
  exact Ends.fin [900] (rs := [.tmp 4]) rfl (by simp only [go_sem] <;> rfl) (by simp only [go_sem, List.map_set] <;> rfl)

set_option maxRecDepth 20000 in
set_option maxHeartbeats 1000000 in
/-- (meterworks/card.late).made -/
theorem c_made_late (l : List Reading) (hl : l.length ≤ 1000) (a d : Nat) (ra : Reading) (ha : l[a]? = some ra) (hr : 0 ≤ ra.day ∧ ra.day ≤ 131072) (hd : d ≤ 1000) : Con Try.prog 89 [.val true [.d (.i a), .d (.i d)], .leaf (.own 900 0 l.length l.length)] [(900, .arr 46 3 ((l).map encReading))] (.ret (.leaf (.own 900 0 l.length l.length)) [(900, .arr 46 3 ((l.set a { ra with day := ra.day - d }).map encReading))]) := by
  have hal := (List.getElem?_eq_some_iff.1 ha).1
  refine con_of follows_mixed Try.func89 rfl (by simp only [List.length_cons, List.length_nil, Try.ntmps89]; omega) (by kernel_rfl) rfl ?_
  refine Exec.reg ?_
  iterate 2 (refine Run.op (by simp only [go_sem, ha] <;> rfl) (by simp only [go_sem] <;> rfl) ?_)
  refine Run.nil ?_
  refine Exec.opk 14 ?_
  refine OpenK.op (by simp only [go_sem, ha] <;> rfl) (by simp only [go_sem] <;> rfl) (by simp only [go_sem] <;> rfl) ?_
  refine OpenK.op (by simp only [go_sem, ha] <;> rfl) (by simp only [go_sem] <;> rfl) (by simp only [go_sem] <;> rfl) ?_
  refine OpenK.op (by simp only [go_sem, ha] <;> rfl) (by simp only [go_sem] <;> rfl) (by simp only [go_sem] <;> rfl) ?_
  refine OpenK.op (by simp only [go_sem, ha]; (try simp (disch := omega) only [if_pos]); (try simp only [go_sem, ha])<;> rfl) (by simp only [go_sem] <;> rfl) (by simp only [go_sem] <;> rfl) ?_
  refine OpenK.op (by simp only [go_sem, ha] <;> rfl) (by simp only [go_sem] <;> rfl) (by simp only [go_sem] <;> rfl) ?_
  refine OpenK.op (by simp only [go_sem, ha] <;> rfl) (by simp only [go_sem] <;> rfl) (by simp only [go_sem] <;> rfl) ?_
  refine OpenK.op (by simp only [go_sem, ha] <;> rfl) (by simp only [go_sem] <;> rfl) (by simp only [go_sem] <;> rfl) ?_
  refine OpenK.op (by simp only [go_sem, ha] <;> rfl) (by simp only [go_sem] <;> rfl) (by simp only [go_sem] <;> rfl) ?_
  refine OpenK.op (by simp only [go_sem, ha]; (try simp (disch := omega) only [IntWalk.i64_in, IntWalk.u64_in, if_neg, if_pos])<;> rfl) (by simp only [go_sem] <;> rfl) (by simp only [go_sem] <;> rfl) ?_
  refine OpenK.op (by simp only [go_sem, ha]; (try simp (disch := omega) only [if_pos]); (try simp only [go_sem, ha])<;> rfl) (by simp only [go_sem] <;> rfl) (by simp only [go_sem] <;> rfl) ?_
  refine OpenK.op (by simp only [go_sem, ha] <;> rfl) (by simp only [go_sem] <;> rfl) (by simp only [go_sem] <;> rfl) ?_
  refine OpenK.op (by simp only [go_sem, ha] <;> rfl) (by simp only [go_sem] <;> rfl) (by simp only [go_sem] <;> rfl) ?_
  refine OpenK.nil (OpenE.fin (by decide +kernel) (by decide +kernel) ?_)
  refine Exec.reg ?_
  iterate 2 (refine Run.op (by simp only [go_sem, ha] <;> rfl) (by simp only [go_sem] <;> rfl) ?_)
  refine Run.nil ?_
  exact Ends.fin [900] (rs := [.tmp 4]) rfl (by simp only [go_sem] <;> rfl) (by simp only [go_sem, List.map_set] <;> rfl)

set_option maxRecDepth 20000 in
set_option maxHeartbeats 2000000 in
/-- slices.Delete[[]meterworks/api.Reading,meterworks/api.Reading] -/
theorem c_Delete_Reading (l : List Reading) (hl : l.length ≤ 1000) (a : Nat) (ha : a < l.length) : Con Try.prog 88 [.leaf (.own 900 0 l.length l.length), .int a, .int ((a : Int) + 1)] [(900, .arr 46 3 ((l).map encReading))] (.ret (.leaf (.own 900 0 (l.length - 1) l.length)) [(900, .arr 46 3 ((l.take a ++ l.drop (a + 1)).map encReading ++ [[.i 0, .i 0, .i 0]]))]) := by
  have t1 : ((a : Int) + 1).toNat = a + 1 := by omega
  have t2 : a + (l.length - (a + 1)) = l.length - 1 := by omega
  have t3 : ((a : Int) == (a : Int) + 1) = false := by simp; omega
  have t4 : (a = l.length) = False := by simp; omega
  have t5 : l.length - (l.length - 1) = 1 := by omega
  have t6 : ((l.length - 1 : Nat) : Int).toNat = l.length - 1 := by omega
  refine con_of follows_mixed Try.func88 rfl (by simp only [List.length_cons, List.length_nil, Try.ntmps88]; omega) (by kernel_rfl) rfl ?_
  refine Exec.reg ?_
  refine Run.op (by simp only [go_sem, t1, t2, t3, t4, t5, t6, and_false, Int.toNat_zero, Nat.sub_zero] <;> rfl) (by simp only [go_sem] <;> rfl) ?_
  refine Run.nil ?_
  refine Exec.reg ?_
  iterate 5 (refine Run.op (by simp only [go_sem, t1, t2, t3, t4, t5, t6, and_false, Int.toNat_zero, Nat.sub_zero] <;> rfl) (by simp only [go_sem] <;> rfl) ?_)
  refine Run.op (by simp only [go_sem, t1, t2, t3, t4, t5, t6, and_false, Int.toNat_zero, Nat.sub_zero]; (try simp (disch := omega) only [if_pos]); (try simp only [go_sem, t1, t2, t3, t4, t5, t6, and_false, Int.toNat_zero, Nat.sub_zero])<;> rfl) (by simp only [go_sem] <;> rfl) ?_
  refine Run.nil ?_
  refine Exec.assocS ?_
  refine Exec.reg ?_
  iterate 3 (refine Run.op (by simp only [go_sem, t1, t2, t3, t4, t5, t6, and_false, Int.toNat_zero, Nat.sub_zero] <;> rfl) (by simp only [go_sem] <;> rfl) ?_)
  refine Run.nil ?_
  refine Exec.cndS (by simp only [go_sem, t1, t2, t3, t4, t5, t6, and_false, Int.toNat_zero, Nat.sub_zero] <;> rfl) (fun hb16 => ?_) (fun hb16 => ?_)
  · exact absurd hb16 (by simp)
  · skip
    refine Exec.skipS ?_
    refine Exec.reg ?_
    iterate 3 (refine Run.op (by simp only [go_sem, t1, t2, t3, t4, t5, t6, and_false, Int.toNat_zero, Nat.sub_zero] <;> rfl) (by simp only [go_sem] <;> rfl) ?_)
    refine Run.nil ?_
    refine Exec.opk 10 ?_
    refine OpenK.op (by simp only [go_sem, t1, t2, t3, t4, t5, t6, and_false, Int.toNat_zero, Nat.sub_zero] <;> rfl) (by simp only [go_sem] <;> rfl) (by simp only [go_sem] <;> rfl) ?_
    refine OpenK.op (by simp only [go_sem, t1, t2, t3, t4, t5, t6, and_false, Int.toNat_zero, Nat.sub_zero] <;> rfl) (by simp only [go_sem] <;> rfl) (by simp only [go_sem] <;> rfl) ?_
    refine OpenK.op (by simp only [go_sem, t1, t2, t3, t4, t5, t6, and_false, Int.toNat_zero, Nat.sub_zero]; (try simp (disch := omega) only [if_pos]); (try simp only [go_sem, t1, t2, t3, t4, t5, t6, and_false, Int.toNat_zero, Nat.sub_zero])<;> rfl) (by simp only [go_sem] <;> rfl) (by simp only [go_sem] <;> rfl) ?_
    refine OpenK.op (by simp only [go_sem, t1, t2, t3, t4, t5, t6, and_false, Int.toNat_zero, Nat.sub_zero] <;> rfl) (by simp only [go_sem] <;> rfl) (by simp only [go_sem] <;> rfl) ?_
    refine OpenK.op (by simp only [go_sem, t1, t2, t3, t4, t5, t6, and_false, Int.toNat_zero, Nat.sub_zero] <;> rfl) (by simp only [go_sem] <;> rfl) (by simp only [go_sem] <;> rfl) ?_
    refine OpenK.op (by simp only [go_sem, t1, t2, t3, t4, t5, t6, and_false, Int.toNat_zero, Nat.sub_zero]; (try simp (disch := omega) only [if_pos]); (try simp only [go_sem, t1, t2, t3, t4, t5, t6, and_false, Int.toNat_zero, Nat.sub_zero])<;> rfl) (by simp only [go_sem] <;> rfl) (by simp only [go_sem] <;> rfl) ?_
    refine OpenK.op (by simp only [go_sem, t1, t2, t3, t4, t5, t6, and_false, Int.toNat_zero, Nat.sub_zero]; (try simp (disch := omega) only [if_pos]); (try simp only [go_sem, t1, t2, t3, t4, t5, t6, and_false, Int.toNat_zero, Nat.sub_zero]) <;> first | (refine ite_run ⟨by (try simp only [List.length_append, List.length_drop, List.length_take, List.length_map, List.length_cons, List.length_nil, List.length_replicate, List.length_set, List.length_range, Nat.zero_add]); omega, by (try simp only [List.length_append, List.length_drop, List.length_take, List.length_map, List.length_cons, List.length_nil, List.length_replicate, List.length_set, List.length_range, Nat.zero_add]); omega, by repeat (first | exact al_nil | assumption | refine al_app ?_ ?_ | refine al_drop ?_ | refine al_take ?_ | exact al_map (fun _ => rfl) | exact al_rep rfl | refine al_cons rfl ?_)⟩ ?_; simp only [go_sem, t1, t2, t3, t4, t5, t6, and_false, Int.toNat_zero, Nat.sub_zero] <;> rfl) | (refine ite_run ⟨by (try simp only [List.length_append, List.length_drop, List.length_take, List.length_map, List.length_cons, List.length_nil, List.length_replicate, List.length_set, List.length_range, Nat.zero_add]); omega, by repeat (first | exact al_nil | assumption | refine al_app ?_ ?_ | refine al_drop ?_ | refine al_take ?_ | exact al_map (fun _ => rfl) | exact al_rep rfl | refine al_cons rfl ?_)⟩ ?_; simp only [go_sem, t1, t2, t3, t4, t5, t6, and_false, Int.toNat_zero, Nat.sub_zero] <;> rfl) | rfl) (by simp only [go_sem] <;> rfl) (by simp only [go_sem] <;> rfl) ?_
    refine OpenK.op (by simp only [go_sem, t1, t2, t3, t4, t5, t6, and_false, Int.toNat_zero, Nat.sub_zero] <;> rfl) (by simp only [go_sem] <;> rfl) (by simp only [go_sem] <;> rfl) ?_
    refine OpenK.nil (OpenE.fin (by decide +kernel) (by decide +kernel) ?_)
    refine Exec.reg ?_
    have q1 : a + (List.take (l.length - (a + 1)) (List.drop (a + 1) (List.map encReading l))).length = l.length - 1 := by simp; omega
    obtain ⟨X, q2⟩ : ∃ X, List.take a (List.map encReading l) ++ List.take (l.length - (a + 1)) (List.drop (a + 1) (List.map encReading l)) ++ List.drop (l.length - 1) (List.map encReading l) = X := ⟨_, rfl⟩
    have hXl : X.length = l.length := by rw [← q2]; simp; omega
    have hXt : X.take (l.length - 1) = (l.take a ++ l.drop (a + 1)).map encReading := by
      have hb : (List.take a (List.map encReading l) ++ List.take (l.length - (a + 1)) (List.drop (a + 1) (List.map encReading l))).length = l.length - 1 := by simp; omega
      have h9 : List.take (l.length - (a + 1)) (List.drop (a + 1) (List.map encReading l)) = List.drop (a + 1) (List.map encReading l) := List.take_of_length_le (by simp)
      rw [← q2, ← hb, List.take_left, h9]; simp
    have hXd : X.drop l.length = [] := List.drop_eq_nil_of_le (by omega)
    rw [q1, q2]
    have t7 : l.length - 1 + 1 = l.length := by omega
    iterate 4 (refine Run.op (by simp only [go_sem, t1, t2, t3, t4, t5, t6, and_false, Int.toNat_zero, Nat.sub_zero, hXl, hXt, hXd, t7, List.tail_cons] <;> rfl) (by simp only [go_sem] <;> rfl) ?_)
    refine Run.op (by simp only [go_sem, t1, t2, t3, t4, t5, t6, and_false, Int.toNat_zero, Nat.sub_zero, hXl, hXt, hXd, t7, List.tail_cons]; (try simp (disch := omega) only [if_pos]); (try simp only [go_sem, t1, t2, t3, t4, t5, t6, and_false, Int.toNat_zero, Nat.sub_zero, hXl, hXt, hXd, t7, List.tail_cons])<;> rfl) (by simp only [go_sem] <;> rfl) ?_
    refine Run.op (by simp only [go_sem, t1, t2, t3, t4, t5, t6, and_false, Int.toNat_zero, Nat.sub_zero, hXl, hXt, hXd, t7, List.tail_cons]; (try simp (disch := omega) only [if_pos]); (try simp only [go_sem, t1, t2, t3, t4, t5, t6, and_false, Int.toNat_zero, Nat.sub_zero, hXl, hXt, hXd, t7, List.tail_cons])<;> rfl) (by simp only [go_sem] <;> rfl) ?_
    refine Run.nil ?_
    refine Exec.reg ?_
    iterate 2 (refine Run.op (by simp only [go_sem, t1, t2, t3, t4, t5, t6, and_false, Int.toNat_zero, Nat.sub_zero, hXl, hXt, hXd, t7, List.tail_cons] <;> rfl) (by simp only [go_sem] <;> rfl) ?_)
    refine Run.nil ?_
    exact Ends.fin [900] (rs := [.tmp 6]) rfl (by simp only [go_sem, t1, t2, t3, t4, t5, t6, and_false, Int.toNat_zero, Nat.sub_zero, hXl, hXt, hXd, t7, List.tail_cons] <;> rfl) (by simp only [go_sem, t1, t2, t3, t4, t5, t6, and_false, Int.toNat_zero, Nat.sub_zero, hXl, hXt, hXd, t7, List.tail_cons] <;> first | rfl | ((repeat' (first | with_reducible_and_instances rfl | refine st_eq ?_ ?_ ?_ | refine ret_eq ?_ | refine tup_eq ?_ | refine tm_eq ?_ ?_ | refine arr_eq ?_ | refine cells_eq ?_ | refine val_eq ?_ | refine ls_eq ?_ ?_ | refine own_eq ?_ ?_ | refine sl_eq ?_ | refine b_eq ?_ | (refine i_eq ?_; omega))); done))

set_option maxRecDepth 20000 in
/-- (meterworks/card.copied).made -/
theorem c_made_copied (l : List Reading) (hl : l.length ≤ 1000) (a : Nat) (ha : a < l.length) : Con Try.prog 87 [.val true [.d (.i a)], .leaf (.own 900 0 l.length l.length)] [(900, .arr 46 3 ((l).map encReading))] (.ret (.leaf (.own 900 0 (l.length - 1) l.length)) [(900, .arr 46 3 ((l.take a ++ l.drop (a + 1)).map encReading ++ [[.i 0, .i 0, .i 0]]))]) := by
  refine con_of follows_mixed Try.func87 rfl (by simp only [List.length_cons, List.length_nil, Try.ntmps87]; omega) (by kernel_rfl) rfl ?_
  refine Exec.reg ?_
  iterate 2 (refine Run.op (by simp only [go_sem] <;> rfl) (by simp only [go_sem] <;> rfl) ?_)
  refine Run.nil ?_
  refine Exec.reg ?_
  iterate 5 (refine Run.op (by simp only [go_sem] <;> rfl) (by simp only [go_sem] <;> rfl) ?_)
  refine Run.op (by simp only [go_sem]; (try simp (disch := omega) only [IntWalk.i64_in, IntWalk.u64_in, if_neg, if_pos])<;> rfl) (by simp only [go_sem] <;> rfl) ?_
  refine Run.lendA 900 900 (c_Delete_Reading l hl a ha) (by simp; omega) (by simp only [go_sem]) (by simp only [go_sem] <;> rfl) (by simp only [go_sem] <;> rfl) (by simp only [go_sem] <;> rfl) (by exact ⟨by first | exact WkR.pure rfl | exact WkR.of rfl rfl | exact WkR.nil _ | exact WkR.int (by first | omega | (simp; done) | (simp; omega)), by first | exact WkR.pure rfl | exact WkR.of rfl rfl | exact WkR.nil _ | exact WkR.int (by first | omega | (simp; done) | (simp; omega)), by first | exact WkR.pure rfl | exact WkR.of rfl rfl | exact WkR.nil _ | exact WkR.int (by first | omega | (simp; done) | (simp; omega)), trivial⟩) (by simp only [go_sem] <;> rfl) ?_
  refine Run.op (by simp only [go_sem] <;> rfl) (by simp only [go_sem] <;> rfl) ?_
  refine Run.nil ?_
  exact Ends.fin [900] (rs := [.tmp 4]) rfl (by simp only [go_sem] <;> rfl) (by simp only [go_sem] <;> first | rfl | ((repeat' (first | with_reducible_and_instances rfl | refine st_eq ?_ ?_ ?_ | refine ret_eq ?_ | refine tup_eq ?_ | refine tm_eq ?_ ?_ | refine arr_eq ?_ | refine cells_eq ?_ | refine val_eq ?_ | refine ls_eq ?_ ?_ | refine own_eq ?_ ?_ | refine sl_eq ?_ | refine b_eq ?_ | (refine i_eq ?_; omega))); done))

end Go.Mw
namespace Go.Mw
open Go.Proofs
def repD : Rep → D
  | .sw a b => .ifc 105 true [.i a, .i b]
  | .cp a => .ifc 107 true [.i a]
  | .lt a d => .ifc 109 true [.i a, .i d]
set_option maxRecDepth 20000 in
set_option maxHeartbeats 4000000 in
/-- meterworks/card.with -/
theorem c_card_with (w : Walk) (r : Rep) (h1 : w.rates.length ≤ 1000) (h2 : w.readings.length ≤ 1000) (hw : walkB w = true) (hr : repOk w r) : Contract Try.prog 46 [walkV w, .leaf (.d (repD r))] (walkV (withS w r)) [] := by
  have hcp : List.take w.readings.length (List.map encReading w.readings) ++ List.drop (List.take w.readings.length (List.map encReading w.readings)).length (List.replicate w.readings.length [D.raw (Value.int IntKind.i64 0), D.raw (Value.int IntKind.i64 0), D.raw (Value.int IntKind.i64 0)]) = List.map encReading w.readings := by
    rw [List.take_of_length_le (by simp), List.drop_eq_nil_of_le (by simp), List.append_nil]
  have hcq : ∀ a, a < w.readings.length → List.take (w.readings.length - 1) ((List.take a w.readings ++ List.drop (a + 1) w.readings).map encReading ++ [[D.i 0, D.i 0, D.i 0]]) = (List.take a w.readings ++ List.drop (a + 1) w.readings).map encReading := fun a ha => by
    have hq : (List.map encReading (List.take a w.readings ++ List.drop (a + 1) w.readings)).length = w.readings.length - 1 := by simp; omega
    rw [← hq]; exact List.take_left
  have hL9 : ∀ a, a < w.readings.length → (List.take a w.readings).length + (List.drop (a + 1) w.readings).length + 1 = w.readings.length := fun a ha => by simp; omega
  rcases r with ⟨a, b⟩ | ⟨a⟩ | ⟨a, d⟩
  · skip
    obtain ⟨hr1, hr2⟩ := hr
    have h9 := hcp
    have hal := rd_get (w := w) (i := a) (by omega)
    have hbl := rd_get hr2
    refine con_of follows_mixed Try.func46 rfl (by simp only [List.length_cons, List.length_nil, Try.ntmps46]; omega) (by kernel_rfl) rfl ?_
    refine Exec.reg ?_
    iterate 2 (refine Run.op (by simp only [go_sem, withS] <;> rfl) (by simp only [go_sem] <;> rfl) ?_)
    refine Run.nil ?_
    refine Exec.reg ?_
    iterate 3 (refine Run.op (by simp only [go_sem, withS] <;> rfl) (by simp only [go_sem] <;> rfl) ?_)
    refine Run.op (by simp only [go_sem, withS]; (try simp (disch := omega) only [if_pos]); (try simp only [go_sem, withS])<;> rfl) (by simp only [go_sem] <;> rfl) ?_
    refine Run.op (by simp only [go_sem, withS] <;> rfl) (by simp only [go_sem] <;> rfl) ?_
    refine Run.nil ?_
    refine Exec.reg ?_
    iterate 3 (refine Run.op (by simp only [go_sem, withS] <;> rfl) (by simp only [go_sem] <;> rfl) ?_)
    refine Run.op (by simp only [go_sem, withS]; (try simp (disch := omega) only [if_pos]); (try simp only [go_sem, withS]); rw [if_pos]; (focus (simp only [go_sem, withS] <;> rfl)); repeat (first | exact al_nil | assumption | refine al_app ?_ ?_ | refine al_drop ?_ | refine al_take ?_ | exact al_map (fun _ => rfl) | exact al_rep rfl | refine al_cons rfl ?_)) (by simp only [go_sem] <;> rfl) ?_
    refine Run.nil ?_
    refine Exec.reg ?_
    rw [hcp]
    iterate 2 (refine Run.op (by simp only [go_sem, withS] <;> rfl) (by simp only [go_sem] <;> rfl) ?_)
    refine Run.invA 900 9 (c_made_swap w.readings h2 a b _ _ hal hbl (by omega)) (by simp; (try omega)) (by simp only [go_sem, repD] <;> rfl) (by simp only [go_sem] <;> rfl) (by kernel_rfl) (by simp only [go_sem] <;> rfl) (by simp only [go_sem] <;> rfl) (by exact ⟨WkR.pure rfl, WkR.of rfl rfl, trivial⟩) (by simp only [go_sem] <;> rfl) ?_
    iterate 2 (refine Run.op (by simp only [go_sem, withS] <;> rfl) (by simp only [go_sem] <;> rfl) ?_)
    refine Run.nil ?_
    refine Exec.reg ?_
    refine Run.frz 9 (by simp only [go_sem, h9] <;> rfl) ?_
    iterate 2 (refine Run.op (by simp only [go_sem, withS] <;> rfl) (by simp only [go_sem] <;> rfl) ?_)
    refine Run.nil ?_
    exact Ends.fin [] (rs := [.cell 4 25]) rfl (by simp only [go_sem, withS] <;> rfl) (by simp only [go_sem, withS] <;> first | rfl | ((repeat' (first | with_reducible_and_instances rfl | refine st_eq ?_ ?_ ?_ | refine ret_eq ?_ | refine tup_eq ?_ | refine tm_eq ?_ ?_ | refine arr_eq ?_ | refine cells_eq ?_ | refine val_eq ?_ | refine ls_eq ?_ ?_ | refine own_eq ?_ ?_ | refine sl_eq ?_ | refine b_eq ?_ | (refine i_eq ?_; omega))); (first | rfl | (refine Eq.trans ?_ (List.take_of_length_le (by simp)).symm; simp [withS, List.map_set, encReading]))))
  · skip
    have hr1 : a < w.readings.length := hr
    have h9 := hL9 a hr1
    refine con_of follows_mixed Try.func46 rfl (by simp only [List.length_cons, List.length_nil, Try.ntmps46]; omega) (by kernel_rfl) rfl ?_
    refine Exec.reg ?_
    iterate 2 (refine Run.op (by simp only [go_sem, withS] <;> rfl) (by simp only [go_sem] <;> rfl) ?_)
    refine Run.nil ?_
    refine Exec.reg ?_
    iterate 3 (refine Run.op (by simp only [go_sem, withS] <;> rfl) (by simp only [go_sem] <;> rfl) ?_)
    refine Run.op (by simp only [go_sem, withS]; (try simp (disch := omega) only [if_pos]); (try simp only [go_sem, withS])<;> rfl) (by simp only [go_sem] <;> rfl) ?_
    refine Run.op (by simp only [go_sem, withS] <;> rfl) (by simp only [go_sem] <;> rfl) ?_
    refine Run.nil ?_
    refine Exec.reg ?_
    iterate 3 (refine Run.op (by simp only [go_sem, withS] <;> rfl) (by simp only [go_sem] <;> rfl) ?_)
    refine Run.op (by simp only [go_sem, withS]; (try simp (disch := omega) only [if_pos]); (try simp only [go_sem, withS]); rw [if_pos]; (focus (simp only [go_sem, withS] <;> rfl)); repeat (first | exact al_nil | assumption | refine al_app ?_ ?_ | refine al_drop ?_ | refine al_take ?_ | exact al_map (fun _ => rfl) | exact al_rep rfl | refine al_cons rfl ?_)) (by simp only [go_sem] <;> rfl) ?_
    refine Run.nil ?_
    refine Exec.reg ?_
    rw [hcp]
    iterate 2 (refine Run.op (by simp only [go_sem, withS] <;> rfl) (by simp only [go_sem] <;> rfl) ?_)
    refine Run.invA 900 9 (c_made_copied w.readings h2 a hr1) (by simp; (try omega)) (by simp only [go_sem, repD] <;> rfl) (by simp only [go_sem] <;> rfl) (by kernel_rfl) (by simp only [go_sem] <;> rfl) (by simp only [go_sem] <;> rfl) (by exact ⟨WkR.pure rfl, WkR.of rfl rfl, trivial⟩) (by simp only [go_sem] <;> rfl) ?_
    iterate 2 (refine Run.op (by simp only [go_sem, withS] <;> rfl) (by simp only [go_sem] <;> rfl) ?_)
    refine Run.nil ?_
    refine Exec.reg ?_
    refine Run.frz 9 (by simp only [go_sem, h9] <;> rfl) ?_
    iterate 2 (refine Run.op (by simp only [go_sem, withS] <;> rfl) (by simp only [go_sem] <;> rfl) ?_)
    refine Run.nil ?_
    exact Ends.fin [] (rs := [.cell 4 25]) rfl (by simp only [go_sem, withS] <;> rfl) (by simp only [go_sem, withS] <;> first | rfl | ((repeat' (first | with_reducible_and_instances rfl | refine st_eq ?_ ?_ ?_ | refine ret_eq ?_ | refine tup_eq ?_ | refine tm_eq ?_ ?_ | refine arr_eq ?_ | refine cells_eq ?_ | refine val_eq ?_ | refine ls_eq ?_ ?_ | refine own_eq ?_ ?_ | refine sl_eq ?_ | refine b_eq ?_ | (refine i_eq ?_; omega))); (first | rfl | exact (hcq a hr1).symm)))
  · skip
    obtain ⟨hr1, hr2⟩ := hr
    have h9 := hcp
    have hal := rd_get hr1
    have hra := read_ok hw hr1
    refine con_of follows_mixed Try.func46 rfl (by simp only [List.length_cons, List.length_nil, Try.ntmps46]; omega) (by kernel_rfl) rfl ?_
    refine Exec.reg ?_
    iterate 2 (refine Run.op (by simp only [go_sem, withS] <;> rfl) (by simp only [go_sem] <;> rfl) ?_)
    refine Run.nil ?_
    refine Exec.reg ?_
    iterate 3 (refine Run.op (by simp only [go_sem, withS] <;> rfl) (by simp only [go_sem] <;> rfl) ?_)
    refine Run.op (by simp only [go_sem, withS]; (try simp (disch := omega) only [if_pos]); (try simp only [go_sem, withS])<;> rfl) (by simp only [go_sem] <;> rfl) ?_
    refine Run.op (by simp only [go_sem, withS] <;> rfl) (by simp only [go_sem] <;> rfl) ?_
    refine Run.nil ?_
    refine Exec.reg ?_
    iterate 3 (refine Run.op (by simp only [go_sem, withS] <;> rfl) (by simp only [go_sem] <;> rfl) ?_)
    refine Run.op (by simp only [go_sem, withS]; (try simp (disch := omega) only [if_pos]); (try simp only [go_sem, withS]); rw [if_pos]; (focus (simp only [go_sem, withS] <;> rfl)); repeat (first | exact al_nil | assumption | refine al_app ?_ ?_ | refine al_drop ?_ | refine al_take ?_ | exact al_map (fun _ => rfl) | exact al_rep rfl | refine al_cons rfl ?_)) (by simp only [go_sem] <;> rfl) ?_
    refine Run.nil ?_
    refine Exec.reg ?_
    rw [hcp]
    iterate 2 (refine Run.op (by simp only [go_sem, withS] <;> rfl) (by simp only [go_sem] <;> rfl) ?_)
    refine Run.invA 900 9 (c_made_late w.readings h2 a d _ hal ⟨hra.2.2.1, hra.2.2.2.1⟩ hr2) (by simp; (try omega)) (by simp only [go_sem, repD] <;> rfl) (by simp only [go_sem] <;> rfl) (by kernel_rfl) (by simp only [go_sem] <;> rfl) (by simp only [go_sem] <;> rfl) (by exact ⟨WkR.pure rfl, WkR.of rfl rfl, trivial⟩) (by simp only [go_sem] <;> rfl) ?_
    iterate 2 (refine Run.op (by simp only [go_sem, withS] <;> rfl) (by simp only [go_sem] <;> rfl) ?_)
    refine Run.nil ?_
    refine Exec.reg ?_
    refine Run.frz 9 (by simp only [go_sem, h9] <;> rfl) ?_
    iterate 2 (refine Run.op (by simp only [go_sem, withS] <;> rfl) (by simp only [go_sem] <;> rfl) ?_)
    refine Run.nil ?_
    exact Ends.fin [] (rs := [.cell 4 25]) rfl (by simp only [go_sem, withS] <;> rfl) (by simp only [go_sem, withS] <;> first | rfl | ((repeat' (first | with_reducible_and_instances rfl | refine st_eq ?_ ?_ ?_ | refine ret_eq ?_ | refine tup_eq ?_ | refine tm_eq ?_ ?_ | refine arr_eq ?_ | refine cells_eq ?_ | refine val_eq ?_ | refine ls_eq ?_ ?_ | refine own_eq ?_ ?_ | refine sl_eq ?_ | refine b_eq ?_ | (refine i_eq ?_; omega))); (first | rfl | (refine Eq.trans ?_ (List.take_of_length_le (by simp)).symm; simp [withS, List.map_set, encReading]))))

set_option maxRecDepth 20000 in
/-- meterworks/card.repairOf -/
theorem c_card_repairOf (x : Repair) (ha : 0 ≤ x.a) (hb : 0 ≤ x.b) : Contract Try.prog 47 [repairV x] (.leaf (.d (repD (repOf x)))) [] := by
  have e1 : ((x.a.toNat : Nat) : Int) = x.a := by omega
  have e2 : ((x.b.toNat : Nat) : Int) = x.b := by omega
  refine con_of follows_mixed Try.func47 rfl (by simp only [List.length_cons, List.length_nil, Try.ntmps47]; omega) (by kernel_rfl) rfl ?_
  refine Exec.reg ?_
  iterate 2 (refine Run.op (by simp only [go_sem] <;> rfl) (by simp only [go_sem] <;> rfl) ?_)
  refine Run.nil ?_
  refine Exec.assocS ?_
  refine Exec.reg ?_
  iterate 2 (refine Run.op (by simp only [go_sem] <;> rfl) (by simp only [go_sem] <;> rfl) ?_)
  refine Run.nil ?_
  refine Exec.blk ?_
  refine Exec.reg ?_
  iterate 2 (refine Run.op (by simp only [go_sem] <;> rfl) (by simp only [go_sem] <;> rfl) ?_)
  refine Run.nil ?_
  refine Exec.cnd (by simp only [go_sem] <;> rfl) (fun hb5 => ?_) (fun hb5 => ?_)
  · skip
    have hk : x.kind = 0 := by simpa using hb5
    have hr : repOf x = .sw x.a.toNat x.b.toNat := by rw [repOf, if_pos hk]
    refine Exec.reg ?_
    iterate 7 (refine Run.op (by simp only [go_sem, hr, repD, e1, e2] <;> rfl) (by simp only [go_sem] <;> rfl) ?_)
    refine Run.nil ?_
    refine BlkK.ret ?_
    exact Ends.fin [] (rs := [.tmp 2]) rfl (by simp only [go_sem, hr, repD, e1, e2] <;> rfl) (by simp only [go_sem, hr, repD, e1, e2] <;> first | rfl | ((repeat' (first | with_reducible_and_instances rfl | refine st_eq ?_ ?_ ?_ | refine ret_eq ?_ | refine tup_eq ?_ | refine tm_eq ?_ ?_ | refine arr_eq ?_ | refine cells_eq ?_ | refine val_eq ?_ | refine ls_eq ?_ ?_ | refine own_eq ?_ ?_ | refine sl_eq ?_ | refine b_eq ?_ | (refine i_eq ?_; omega))); done))
  · skip
    have hk0 : ¬ x.kind = 0 := by simpa using hb5
    refine Exec.reg ?_
    iterate 2 (refine Run.op (by simp only [go_sem] <;> rfl) (by simp only [go_sem] <;> rfl) ?_)
    refine Run.nil ?_
    refine Exec.cnd (by simp only [go_sem] <;> rfl) (fun hb13 => ?_) (fun hb13 => ?_)
    · skip
      have hk : x.kind = 1 := by simpa using hb13
      have hr : repOf x = .cp x.a.toNat := by rw [repOf, if_neg hk0, if_pos hk]
      refine Exec.reg ?_
      iterate 5 (refine Run.op (by simp only [go_sem, hr, repD, e1] <;> rfl) (by simp only [go_sem] <;> rfl) ?_)
      refine Run.nil ?_
      refine BlkK.ret ?_
      exact Ends.fin [] (rs := [.tmp 2]) rfl (by simp only [go_sem, hr, repD, e1] <;> rfl) (by simp only [go_sem, hr, repD, e1] <;> first | rfl | ((repeat' (first | with_reducible_and_instances rfl | refine st_eq ?_ ?_ ?_ | refine ret_eq ?_ | refine tup_eq ?_ | refine tm_eq ?_ ?_ | refine arr_eq ?_ | refine cells_eq ?_ | refine val_eq ?_ | refine ls_eq ?_ ?_ | refine own_eq ?_ ?_ | refine sl_eq ?_ | refine b_eq ?_ | (refine i_eq ?_; omega))); done))
    · skip
      have hk1 : ¬ x.kind = 1 := by simpa using hb13
      have hr : repOf x = .lt x.a.toNat x.b.toNat := by rw [repOf, if_neg hk0, if_neg hk1]
      refine BlkK.nrm ?_
      refine Exec.reg ?_
      iterate 7 (refine Run.op (by simp only [go_sem, hr, repD, e1, e2] <;> rfl) (by simp only [go_sem] <;> rfl) ?_)
      refine Run.nil ?_
      exact Ends.fin [] (rs := [.tmp 2]) rfl (by simp only [go_sem, hr, repD, e1, e2] <;> rfl) (by simp only [go_sem, hr, repD, e1, e2] <;> first | rfl | ((repeat' (first | with_reducible_and_instances rfl | refine st_eq ?_ ?_ ?_ | refine ret_eq ?_ | refine tup_eq ?_ | refine tm_eq ?_ ?_ | refine arr_eq ?_ | refine cells_eq ?_ | refine val_eq ?_ | refine ls_eq ?_ ?_ | refine own_eq ?_ ?_ | refine sl_eq ?_ | refine b_eq ?_ | (refine i_eq ?_; omega))); done))

end Go.Mw

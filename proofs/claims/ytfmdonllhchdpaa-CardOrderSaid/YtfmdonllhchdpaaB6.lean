/- Contracts of the functions of the document: what explains, and what is the same. -/
import Derived.Test.YtfmdonllhchdpaaB5
import Derived.Test.YtfmdonllhchdpaaB4
set_option linter.unusedSimpArgs false
set_option linter.unusedVariables false
set_option linter.unusedSectionVars false
set_option linter.deprecated false
namespace Go.Mw
open Go.Proofs
theorem repair_eq {a b : Repair} (h : (!(a.kind == b.kind && (a.a == b.a && (a.b == b.b && a.c == b.c)))) = false) : a = b := by
  obtain ⟨a1, a2, a3, a4⟩ := a
  obtain ⟨b1, b2, b3, b4⟩ := b
  simp at h
  obtain ⟨rfl, rfl, rfl, rfl⟩ := h
  rfl
theorem reading_eq {a b : Reading} (h : (!(a.house == b.house && (a.day == b.day && a.shows == b.shows))) = false) : a = b := by
  obtain ⟨a1, a2, a3⟩ := a
  obtain ⟨b1, b2, b3⟩ := b
  simp at h
  obtain ⟨rfl, rfl, rfl⟩ := h
  rfl
set_option maxRecDepth 20000 in
/-- meterworks/meterworksref12.Repairs -/
theorem c_meterworksref12_Repairs (l m : List Repair) (h1 : l.length ≤ 1000) (h2 : m.length ≤ 1000) : Contract Try.prog 22 [.leaf (.d (repsD l)), .leaf (.d (repsD m))] (.bool (decide (l = m))) [] := by
  refine con_of follows_mixed Try.func22 rfl (by simp only [List.length_cons, List.length_nil, Try.ntmps22]; omega) (by kernel_rfl) rfl ?_
  refine Exec.reg ?_
  refine Run.op (by simp only [go_sem] <;> rfl) (by simp only [go_sem] <;> rfl) ?_
  refine Run.nil ?_
  refine Exec.assocS ?_
  refine Exec.reg ?_
  iterate 5 (refine Run.op (by simp only [go_sem] <;> rfl) (by simp only [go_sem] <;> rfl) ?_)
  refine Run.nil ?_
  refine Exec.cndS (by simp only [go_sem] <;> rfl) (fun hb10 => ?_) (fun hb10 => ?_)
  · skip
    have hr : decide (l = m) = false := by rw [decide_eq_false_iff_not]; rintro rfl; simp at hb10
    refine Exec.assocS ?_
    refine Exec.reg ?_
    refine Run.op (by simp only [go_sem, hr] <;> rfl) (by simp only [go_sem] <;> rfl) ?_
    refine Run.nil ?_
    refine Exec.retS ?_
    exact Ends.fin [] (rs := [.tmp 4]) rfl (by simp only [go_sem, hr] <;> rfl) (by simp only [go_sem, hr] <;> first | rfl | ((repeat' (first | with_reducible_and_instances rfl | refine st_eq ?_ ?_ ?_ | refine ret_eq ?_ | refine tup_eq ?_ | refine tm_eq ?_ ?_ | refine arr_eq ?_ | refine cells_eq ?_ | refine val_eq ?_ | refine ls_eq ?_ ?_ | refine own_eq ?_ ?_ | refine sl_eq ?_ | refine b_eq ?_ | (refine i_eq ?_; omega))); done))
  · skip
    have hlen : l.length = m.length := Int.ofNat_inj.1 (by simpa using hb10)
    refine Exec.skipS ?_
    refine Exec.assocS ?_
    refine Exec.reg ?_
    refine Run.op (by simp only [go_sem] <;> rfl) (by simp only [go_sem] <;> rfl) ?_
    refine Run.nil ?_
    refine Exec.blk ?_
    refine Exec.forA [0, 1, 5] [] (l.length) (fun k => [.slot 5 (.int k)]) (fun k => ∀ j, j < k → l[j]? = m[j]?) (fun k => by simp only [go_sem] <;> rfl) (by simp only [go_sem] <;> rfl) ?_ (fun k hk hX => ?_)
    · exact fun j hj => absurd hj (by omega)
    · skip
      refine Exec.assocS ?_
      refine Exec.reg ?_
      iterate 4 (refine Run.op (by simp only [go_sem] <;> rfl) (by simp only [go_sem] <;> rfl) ?_)
      refine Run.nil ?_
      refine Exec.cndS (by simp only [go_sem] <;> rfl) (fun hb14 => ?_) (fun hb14 => ?_)
      · skip
        have hlt := lt_of_dec hb14
        obtain ⟨a, ha⟩ : ∃ a, l[k]? = some a := ⟨_, List.getElem?_eq_getElem hlt⟩
        obtain ⟨b, hb⟩ : ∃ b, m[k]? = some b := ⟨_, List.getElem?_eq_getElem (by omega)⟩
        refine Exec.skipS ?_
        refine Exec.blk ?_
        refine Exec.opk 11 ?_
        refine OpenK.op (by simp only [go_sem, ha, hb] <;> rfl) (by simp only [go_sem] <;> rfl) (by simp only [go_sem] <;> rfl) ?_
        refine OpenK.op (by simp only [go_sem, ha, hb] <;> rfl) (by simp only [go_sem] <;> rfl) (by simp only [go_sem] <;> rfl) ?_
        refine OpenK.op (by simp only [go_sem, ha, hb]; (try simp (disch := omega) only [if_pos]); (try simp only [go_sem, ha, hb])<;> rfl) (by simp only [go_sem] <;> rfl) (by simp only [go_sem] <;> rfl) ?_
        refine OpenK.op (by simp only [go_sem, ha, hb] <;> rfl) (by simp only [go_sem] <;> rfl) (by simp only [go_sem] <;> rfl) ?_
        refine OpenK.op (by simp only [go_sem, ha, hb] <;> rfl) (by simp only [go_sem] <;> rfl) (by simp only [go_sem] <;> rfl) ?_
        refine OpenK.op (by simp only [go_sem, ha, hb] <;> rfl) (by simp only [go_sem] <;> rfl) (by simp only [go_sem] <;> rfl) ?_
        refine OpenK.op (by simp only [go_sem, ha, hb]; (try simp (disch := omega) only [if_pos]); (try simp only [go_sem, ha, hb])<;> rfl) (by simp only [go_sem] <;> rfl) (by simp only [go_sem] <;> rfl) ?_
        refine OpenK.op (by simp only [go_sem, ha, hb] <;> rfl) (by simp only [go_sem] <;> rfl) (by simp only [go_sem] <;> rfl) ?_
        refine OpenK.op (by simp only [go_sem, ha, hb] <;> rfl) (by simp only [go_sem] <;> rfl) (by simp only [go_sem] <;> rfl) ?_
        refine OpenK.nil (OpenE.fin (by decide +kernel) (by decide +kernel) ?_)
        refine Exec.cnd (by simp only [go_sem, ha, hb] <;> rfl) (fun hb25 => ?_) (fun hb25 => ?_)
        · skip
          have hr : decide (l = m) = false := by rw [decide_eq_false_iff_not]; rintro rfl; rw [ha] at hb; cases hb; simp at hb25
          refine Exec.reg ?_
          refine Run.op (by simp only [go_sem, ha, hb, hr] <;> rfl) (by simp only [go_sem] <;> rfl) ?_
          refine Run.nil ?_
          refine BlkK.ret ?_
          refine ForK.ret ?_
          refine BlkK.ret ?_
          exact Ends.fin [] (rs := [.tmp 4]) rfl (by simp only [go_sem, ha, hb, hr] <;> rfl) (by simp only [go_sem, ha, hb, hr] <;> first | rfl | ((repeat' (first | with_reducible_and_instances rfl | refine st_eq ?_ ?_ ?_ | refine ret_eq ?_ | refine tup_eq ?_ | refine tm_eq ?_ ?_ | refine arr_eq ?_ | refine cells_eq ?_ | refine val_eq ?_ | refine ls_eq ?_ ?_ | refine own_eq ?_ ?_ | refine sl_eq ?_ | refine b_eq ?_ | (refine i_eq ?_; omega))); done))
        · skip
          have hab : a = b := repair_eq hb25
          refine BlkK.nrm ?_
          refine Exec.reg1 ?_
          refine Run.op (by simp only [go_sem, ha, hb] <;> rfl) (by simp only [go_sem] <;> rfl) ?_
          refine Run.op (by simp only [go_sem, ha, hb]; (try simp (disch := omega) only [IntWalk.i64_in, IntWalk.u64_in, if_neg, if_pos])<;> rfl) (by simp only [go_sem] <;> rfl) ?_
          refine Run.op (by simp only [go_sem, ha, hb] <;> rfl) (by simp only [go_sem] <;> rfl) ?_
          refine Run.nil ?_
          refine ForK.nxt ?_ ?_ ?_
          · omega
          · exact Ghost.kp [0, 1, 5] [] (by simp only [go_sem, ha, hb]; first | ((repeat' (first | with_reducible_and_instances rfl | refine st_eq ?_ ?_ ?_ | refine ret_eq ?_ | refine tup_eq ?_ | refine tm_eq ?_ ?_ | refine arr_eq ?_ | refine cells_eq ?_ | refine val_eq ?_ | refine ls_eq ?_ ?_ | refine own_eq ?_ ?_ | refine sl_eq ?_ | refine b_eq ?_ | (refine i_eq ?_; omega))); done) | rfl)
          · exact fun j hj => if e : j = k then e ▸ (by rw [ha, hb]; rw [hab]) else hX j (by omega)
      · skip
        have hr : decide (l = m) = true := by rw [decide_eq_true_iff]; exact List.ext_getElem? fun j => if hj : j < k then hX j hj else by have := ge_of_dec hb14; rw [List.getElem?_eq_none (by omega), List.getElem?_eq_none (by omega)]
        refine Exec.exitS ?_
        refine ForK.ext ?_
        refine BlkK.hit ?_
        refine Exec.reg ?_
        refine Run.op (by simp only [go_sem, hr] <;> rfl) (by simp only [go_sem] <;> rfl) ?_
        refine Run.nil ?_
        exact Ends.fin [] (rs := [.tmp 4]) rfl (by simp only [go_sem, hr] <;> rfl) (by simp only [go_sem, hr] <;> first | rfl | ((repeat' (first | with_reducible_and_instances rfl | refine st_eq ?_ ?_ ?_ | refine ret_eq ?_ | refine tup_eq ?_ | refine tm_eq ?_ ?_ | refine arr_eq ?_ | refine cells_eq ?_ | refine val_eq ?_ | refine ls_eq ?_ ?_ | refine own_eq ?_ ?_ | refine sl_eq ?_ | refine b_eq ?_ | (refine i_eq ?_; omega))); done))

set_option maxRecDepth 20000 in
/-- meterworks/meterworksref12.Readings -/
theorem c_meterworksref12_Readings (l m : List Reading) (h1 : l.length ≤ 1000) (h2 : m.length ≤ 1000) : Contract Try.prog 23 [.leaf (.d (readsD l)), .leaf (.d (readsD m))] (.bool (decide (l = m))) [] := by
  refine con_of follows_mixed Try.func23 rfl (by simp only [List.length_cons, List.length_nil, Try.ntmps23]; omega) (by kernel_rfl) rfl ?_
  refine Exec.reg ?_
  refine Run.op (by simp only [go_sem] <;> rfl) (by simp only [go_sem] <;> rfl) ?_
  refine Run.nil ?_
  refine Exec.assocS ?_
  refine Exec.reg ?_
  iterate 5 (refine Run.op (by simp only [go_sem] <;> rfl) (by simp only [go_sem] <;> rfl) ?_)
  refine Run.nil ?_
  refine Exec.cndS (by simp only [go_sem] <;> rfl) (fun hb10 => ?_) (fun hb10 => ?_)
  · skip
    have hr : decide (l = m) = false := by rw [decide_eq_false_iff_not]; rintro rfl; simp at hb10
    refine Exec.assocS ?_
    refine Exec.reg ?_
    refine Run.op (by simp only [go_sem, hr] <;> rfl) (by simp only [go_sem] <;> rfl) ?_
    refine Run.nil ?_
    refine Exec.retS ?_
    exact Ends.fin [] (rs := [.tmp 4]) rfl (by simp only [go_sem, hr] <;> rfl) (by simp only [go_sem, hr] <;> first | rfl | ((repeat' (first | with_reducible_and_instances rfl | refine st_eq ?_ ?_ ?_ | refine ret_eq ?_ | refine tup_eq ?_ | refine tm_eq ?_ ?_ | refine arr_eq ?_ | refine cells_eq ?_ | refine val_eq ?_ | refine ls_eq ?_ ?_ | refine own_eq ?_ ?_ | refine sl_eq ?_ | refine b_eq ?_ | (refine i_eq ?_; omega))); done))
  · skip
    have hlen : l.length = m.length := Int.ofNat_inj.1 (by simpa using hb10)
    refine Exec.skipS ?_
    refine Exec.assocS ?_
    refine Exec.reg ?_
    refine Run.op (by simp only [go_sem] <;> rfl) (by simp only [go_sem] <;> rfl) ?_
    refine Run.nil ?_
    refine Exec.blk ?_
    refine Exec.forA [0, 1, 5] [] (l.length) (fun k => [.slot 5 (.int k)]) (fun k => ∀ j, j < k → l[j]? = m[j]?) (fun k => by simp only [go_sem] <;> rfl) (by simp only [go_sem] <;> rfl) ?_ (fun k hk hX => ?_)
    · exact fun j hj => absurd hj (by omega)
    · skip
      refine Exec.assocS ?_
      refine Exec.reg ?_
      iterate 4 (refine Run.op (by simp only [go_sem] <;> rfl) (by simp only [go_sem] <;> rfl) ?_)
      refine Run.nil ?_
      refine Exec.cndS (by simp only [go_sem] <;> rfl) (fun hb14 => ?_) (fun hb14 => ?_)
      · skip
        have hlt := lt_of_dec hb14
        obtain ⟨a, ha⟩ : ∃ a, l[k]? = some a := ⟨_, List.getElem?_eq_getElem hlt⟩
        obtain ⟨b, hb⟩ : ∃ b, m[k]? = some b := ⟨_, List.getElem?_eq_getElem (by omega)⟩
        refine Exec.skipS ?_
        refine Exec.blk ?_
        refine Exec.opk 11 ?_
        refine OpenK.op (by simp only [go_sem, ha, hb] <;> rfl) (by simp only [go_sem] <;> rfl) (by simp only [go_sem] <;> rfl) ?_
        refine OpenK.op (by simp only [go_sem, ha, hb] <;> rfl) (by simp only [go_sem] <;> rfl) (by simp only [go_sem] <;> rfl) ?_
        refine OpenK.op (by simp only [go_sem, ha, hb]; (try simp (disch := omega) only [if_pos]); (try simp only [go_sem, ha, hb])<;> rfl) (by simp only [go_sem] <;> rfl) (by simp only [go_sem] <;> rfl) ?_
        refine OpenK.op (by simp only [go_sem, ha, hb] <;> rfl) (by simp only [go_sem] <;> rfl) (by simp only [go_sem] <;> rfl) ?_
        refine OpenK.op (by simp only [go_sem, ha, hb] <;> rfl) (by simp only [go_sem] <;> rfl) (by simp only [go_sem] <;> rfl) ?_
        refine OpenK.op (by simp only [go_sem, ha, hb] <;> rfl) (by simp only [go_sem] <;> rfl) (by simp only [go_sem] <;> rfl) ?_
        refine OpenK.op (by simp only [go_sem, ha, hb]; (try simp (disch := omega) only [if_pos]); (try simp only [go_sem, ha, hb])<;> rfl) (by simp only [go_sem] <;> rfl) (by simp only [go_sem] <;> rfl) ?_
        refine OpenK.op (by simp only [go_sem, ha, hb] <;> rfl) (by simp only [go_sem] <;> rfl) (by simp only [go_sem] <;> rfl) ?_
        refine OpenK.op (by simp only [go_sem, ha, hb] <;> rfl) (by simp only [go_sem] <;> rfl) (by simp only [go_sem] <;> rfl) ?_
        refine OpenK.nil (OpenE.fin (by decide +kernel) (by decide +kernel) ?_)
        refine Exec.cnd (by simp only [go_sem, ha, hb] <;> rfl) (fun hb25 => ?_) (fun hb25 => ?_)
        · skip
          have hr : decide (l = m) = false := by rw [decide_eq_false_iff_not]; rintro rfl; rw [ha] at hb; cases hb; simp at hb25
          refine Exec.reg ?_
          refine Run.op (by simp only [go_sem, ha, hb, hr] <;> rfl) (by simp only [go_sem] <;> rfl) ?_
          refine Run.nil ?_
          refine BlkK.ret ?_
          refine ForK.ret ?_
          refine BlkK.ret ?_
          exact Ends.fin [] (rs := [.tmp 4]) rfl (by simp only [go_sem, ha, hb, hr] <;> rfl) (by simp only [go_sem, ha, hb, hr] <;> first | rfl | ((repeat' (first | with_reducible_and_instances rfl | refine st_eq ?_ ?_ ?_ | refine ret_eq ?_ | refine tup_eq ?_ | refine tm_eq ?_ ?_ | refine arr_eq ?_ | refine cells_eq ?_ | refine val_eq ?_ | refine ls_eq ?_ ?_ | refine own_eq ?_ ?_ | refine sl_eq ?_ | refine b_eq ?_ | (refine i_eq ?_; omega))); done))
        · skip
          have hab : a = b := reading_eq hb25
          refine BlkK.nrm ?_
          refine Exec.reg1 ?_
          refine Run.op (by simp only [go_sem, ha, hb] <;> rfl) (by simp only [go_sem] <;> rfl) ?_
          refine Run.op (by simp only [go_sem, ha, hb]; (try simp (disch := omega) only [IntWalk.i64_in, IntWalk.u64_in, if_neg, if_pos])<;> rfl) (by simp only [go_sem] <;> rfl) ?_
          refine Run.op (by simp only [go_sem, ha, hb] <;> rfl) (by simp only [go_sem] <;> rfl) ?_
          refine Run.nil ?_
          refine ForK.nxt ?_ ?_ ?_
          · omega
          · exact Ghost.kp [0, 1, 5] [] (by simp only [go_sem, ha, hb]; first | ((repeat' (first | with_reducible_and_instances rfl | refine st_eq ?_ ?_ ?_ | refine ret_eq ?_ | refine tup_eq ?_ | refine tm_eq ?_ ?_ | refine arr_eq ?_ | refine cells_eq ?_ | refine val_eq ?_ | refine ls_eq ?_ ?_ | refine own_eq ?_ ?_ | refine sl_eq ?_ | refine b_eq ?_ | (refine i_eq ?_; omega))); done) | rfl)
          · exact fun j hj => if e : j = k then e ▸ (by rw [ha, hb]; rw [hab]) else hX j (by omega)
      · skip
        have hr : decide (l = m) = true := by rw [decide_eq_true_iff]; exact List.ext_getElem? fun j => if hj : j < k then hX j hj else by have := ge_of_dec hb14; rw [List.getElem?_eq_none (by omega), List.getElem?_eq_none (by omega)]
        refine Exec.exitS ?_
        refine ForK.ext ?_
        refine BlkK.hit ?_
        refine Exec.reg ?_
        refine Run.op (by simp only [go_sem, hr] <;> rfl) (by simp only [go_sem] <;> rfl) ?_
        refine Run.nil ?_
        exact Ends.fin [] (rs := [.tmp 4]) rfl (by simp only [go_sem, hr] <;> rfl) (by simp only [go_sem, hr] <;> first | rfl | ((repeat' (first | with_reducible_and_instances rfl | refine st_eq ?_ ?_ ?_ | refine ret_eq ?_ | refine tup_eq ?_ | refine tm_eq ?_ ?_ | refine arr_eq ?_ | refine cells_eq ?_ | refine val_eq ?_ | refine ls_eq ?_ ?_ | refine own_eq ?_ ?_ | refine sl_eq ?_ | refine b_eq ?_ | (refine i_eq ?_; omega))); done))

end Go.Mw
namespace Go.Mw
open Go.Proofs
set_option maxRecDepth 20000 in
/-- slices.IndexFunc[[]meterworks/api.Span,meterworks/api.Span] -/
theorem c_IndexFunc_Span {g : FuncId} {ds : List D} (p : Span → Bool) (hg : canCall Try.prog g = true) (hp : ∀ s, Contract Try.prog g (spanV s :: ds.map fun x => .leaf (.d x)) (.bool (p s)) []) (l : List Span) (hl : l.length ≤ 1000) : Contract Try.prog 62 [.leaf (.d (.sl 2 (l.map encSpan))), .leaf (.d (.fn g ds))] (.int (idxI (l.findIdx? p))) [] := by
  refine con_of follows_mixed Try.func62 rfl (by simp only [List.length_cons, List.length_nil, Try.ntmps62]; omega) (by kernel_rfl) rfl ?_
  refine Exec.reg ?_
  refine Run.op (by simp only [go_sem] <;> rfl) (by simp only [go_sem] <;> rfl) ?_
  refine Run.nil ?_
  refine Exec.assocS ?_
  refine Exec.reg ?_
  iterate 3 (refine Run.op (by simp only [go_sem] <;> rfl) (by simp only [go_sem] <;> rfl) ?_)
  refine Run.nil ?_
  refine Exec.blk ?_
  refine Exec.forA [0, 1, 7, 8] [] (l.length) (fun k => [.slot 8 (.int k)]) (fun k => (l.take k).any p = false) (fun k => by simp only [go_sem] <;> rfl) (by simp only [go_sem] <;> rfl) ?_ (fun k hk hX => ?_)
  · rfl
  · skip
    refine Exec.reg ?_
    refine Run.op (by simp only [go_sem] <;> rfl) (by simp only [go_sem] <;> rfl) ?_
    refine Run.nil ?_
    refine Exec.cndS (by simp only [go_sem] <;> rfl) (fun hb9 => ?_) (fun hb9 => ?_)
    · skip
      have hlt := lt_of_dec hb9
      obtain ⟨s, hs⟩ := elem_of hb9
      refine Exec.skipS ?_
      refine Exec.blk ?_
      refine Exec.reg ?_
      iterate 2 (refine Run.op (by simp only [go_sem, hs] <;> rfl) (by simp only [go_sem] <;> rfl) ?_)
      refine Run.nil ?_
      refine Exec.reg ?_
      iterate 3 (refine Run.op (by simp only [go_sem, hs] <;> rfl) (by simp only [go_sem] <;> rfl) ?_)
      refine Run.op (by simp only [go_sem, hs]; (try simp (disch := omega) only [if_pos]); (try simp only [go_sem, hs])<;> rfl) (by simp only [go_sem] <;> rfl) ?_
      refine Run.op (by simp only [go_sem, hs] <;> rfl) (by simp only [go_sem] <;> rfl) ?_
      refine Run.calw (by simp only [go_sem] <;> rfl) (hp s) (by assumption) (by simp only [go_sem, hs] <;> rfl) (by simp only [go_sem, hs] <;> rfl) (by exact ⟨by first | exact WkR.pure rfl | exact WkR.nil _ | exact WkR.int (by omega), wkr_caps _ _ _⟩) (fr0) (by simp only [go_sem, hs] <;> rfl) ?_
      refine Run.nil ?_
      refine Exec.cnd (by simp only [go_sem, hs] <;> rfl) (fun hb16 => ?_) (fun hb16 => ?_)
      · skip
        have hr := find_at hX hs hb16
        refine Exec.reg ?_
        iterate 2 (refine Run.op (by simp only [go_sem, hs, hr, idxI] <;> rfl) (by simp only [go_sem] <;> rfl) ?_)
        refine Run.nil ?_
        refine BlkK.ret ?_
        refine ForK.ret ?_
        refine BlkK.ret ?_
        exact Ends.fin [] (rs := [.tmp 4]) rfl (by simp only [go_sem, hs, hr, idxI] <;> rfl) (by simp only [go_sem, hs, hr, idxI] <;> first | rfl | ((repeat' (first | with_reducible_and_instances rfl | refine st_eq ?_ ?_ ?_ | refine ret_eq ?_ | refine tup_eq ?_ | refine tm_eq ?_ ?_ | refine arr_eq ?_ | refine cells_eq ?_ | refine val_eq ?_ | refine ls_eq ?_ ?_ | refine own_eq ?_ ?_ | refine sl_eq ?_ | refine b_eq ?_ | (refine i_eq ?_; omega))); done))
      · skip
        refine BlkK.nrm ?_
        refine Exec.reg1 ?_
        refine Run.op (by simp only [go_sem, hs]; (try simp (disch := omega) only [IntWalk.i64_in, IntWalk.u64_in, if_neg, if_pos])<;> rfl) (by simp only [go_sem] <;> rfl) ?_
        refine Run.op (by simp only [go_sem, hs] <;> rfl) (by simp only [go_sem] <;> rfl) ?_
        refine Run.nil ?_
        refine ForK.nxt ?_ ?_ ?_
        · omega
        · exact Ghost.kp [0, 1, 7, 8] [] (by simp only [go_sem, hs]; first | ((repeat' (first | with_reducible_and_instances rfl | refine st_eq ?_ ?_ ?_ | refine ret_eq ?_ | refine tup_eq ?_ | refine tm_eq ?_ ?_ | refine arr_eq ?_ | refine cells_eq ?_ | refine val_eq ?_ | refine ls_eq ?_ ?_ | refine own_eq ?_ ?_ | refine sl_eq ?_ | refine b_eq ?_ | (refine i_eq ?_; omega))); done) | rfl)
        · exact any_step hX hs hb16
    · skip
      have hr := find_none hX (ge_of_dec hb9)
      refine Exec.exitS ?_
      refine ForK.ext ?_
      refine BlkK.hit ?_
      refine Exec.reg ?_
      refine Run.op (by simp only [go_sem, hr, idxI] <;> rfl) (by simp only [go_sem] <;> rfl) ?_
      refine Run.nil ?_
      exact Ends.fin [] (rs := [.tmp 4]) rfl (by simp only [go_sem, hr, idxI] <;> rfl) (by simp only [go_sem, hr, idxI] <;> first | rfl | ((repeat' (first | with_reducible_and_instances rfl | refine st_eq ?_ ?_ ?_ | refine ret_eq ?_ | refine tup_eq ?_ | refine tm_eq ?_ ?_ | refine arr_eq ?_ | refine cells_eq ?_ | refine val_eq ?_ | refine ls_eq ?_ ?_ | refine own_eq ?_ ?_ | refine sl_eq ?_ | refine b_eq ?_ | (refine i_eq ?_; omega))); done))

set_option maxRecDepth 20000 in
/-- slices.ContainsFunc[[]meterworks/api.Span,meterworks/api.Span] -/
theorem c_ContainsFunc_Span {g : FuncId} {ds : List D} (p : Span → Bool) (hg : canCall Try.prog g = true) (hp : ∀ s, Contract Try.prog g (spanV s :: ds.map fun x => .leaf (.d x)) (.bool (p s)) []) (l : List Span) (hl : l.length ≤ 1000) : Contract Try.prog 52 [.leaf (.d (.sl 2 (l.map encSpan))), .leaf (.d (.fn g ds))] (.bool (l.any p)) [] := by
  refine con_of follows_mixed Try.func52 rfl (by simp only [List.length_cons, List.length_nil, Try.ntmps52]; omega) (by kernel_rfl) rfl ?_
  refine Exec.reg ?_
  refine Run.op (by simp only [go_sem, idxI_ge, find_any] <;> rfl) (by simp only [go_sem] <;> rfl) ?_
  refine Run.nil ?_
  refine Exec.reg ?_
  iterate 2 (refine Run.op (by simp only [go_sem, idxI_ge, find_any] <;> rfl) (by simp only [go_sem] <;> rfl) ?_)
  refine Run.cal (c_IndexFunc_Span p hg hp l hl) (by simp only [go_sem]) (by simp only [go_sem, idxI_ge, find_any] <;> rfl) (by exact ⟨by first | exact WkR.pure rfl | exact WkR.nil _ | exact WkR.int (by first | omega | (simp; done) | (simp; omega)), by first | exact WkR.pure rfl | exact WkR.nil _ | exact WkR.int (by first | omega | (simp; done) | (simp; omega)), trivial⟩) (fr0) (by simp only [go_sem, idxI_ge, find_any] <;> rfl) ?_
  iterate 2 (refine Run.op (by simp only [go_sem, idxI_ge, find_any] <;> rfl) (by simp only [go_sem] <;> rfl) ?_)
  refine Run.nil ?_
  exact Ends.fin [] (rs := [.tmp 4]) rfl (by simp only [go_sem, idxI_ge, find_any] <;> rfl) (by simp only [go_sem, idxI_ge, find_any] <;> first | rfl | ((repeat' (first | with_reducible_and_instances rfl | refine st_eq ?_ ?_ ?_ | refine ret_eq ?_ | refine tup_eq ?_ | refine tm_eq ?_ ?_ | refine arr_eq ?_ | refine cells_eq ?_ | refine val_eq ?_ | refine ls_eq ?_ ?_ | refine own_eq ?_ ?_ | refine sl_eq ?_ | refine b_eq ?_ | (refine i_eq ?_; omega))); done))

set_option maxRecDepth 20000 in
/-- slices.IndexFunc[[]meterworks/api.Reading,meterworks/api.Reading] -/
theorem c_IndexFunc_Reading {g : FuncId} {ds : List D} (p : Reading → Bool) (hg : canCall Try.prog g = true) (hp : ∀ s, Contract Try.prog g (readingV s :: ds.map fun x => .leaf (.d x)) (.bool (p s)) []) (l : List Reading) (hl : l.length ≤ 1000) : Contract Try.prog 63 [.leaf (.d (.sl 3 (l.map encReading))), .leaf (.d (.fn g ds))] (.int (idxI (l.findIdx? p))) [] := by
  refine con_of follows_mixed Try.func63 rfl (by simp only [List.length_cons, List.length_nil, Try.ntmps63]; omega) (by kernel_rfl) rfl ?_
  refine Exec.reg ?_
  refine Run.op (by simp only [go_sem] <;> rfl) (by simp only [go_sem] <;> rfl) ?_
  refine Run.nil ?_
  refine Exec.assocS ?_
  refine Exec.reg ?_
  iterate 3 (refine Run.op (by simp only [go_sem] <;> rfl) (by simp only [go_sem] <;> rfl) ?_)
  refine Run.nil ?_
  refine Exec.blk ?_
  refine Exec.forA [0, 1, 7, 8] [] (l.length) (fun k => [.slot 8 (.int k)]) (fun k => (l.take k).any p = false) (fun k => by simp only [go_sem] <;> rfl) (by simp only [go_sem] <;> rfl) ?_ (fun k hk hX => ?_)
  · rfl
  · skip
    refine Exec.reg ?_
    refine Run.op (by simp only [go_sem] <;> rfl) (by simp only [go_sem] <;> rfl) ?_
    refine Run.nil ?_
    refine Exec.cndS (by simp only [go_sem] <;> rfl) (fun hb9 => ?_) (fun hb9 => ?_)
    · skip
      have hlt := lt_of_dec hb9
      obtain ⟨s, hs⟩ := elem_of hb9
      refine Exec.skipS ?_
      refine Exec.blk ?_
      refine Exec.reg ?_
      iterate 2 (refine Run.op (by simp only [go_sem, hs] <;> rfl) (by simp only [go_sem] <;> rfl) ?_)
      refine Run.nil ?_
      refine Exec.reg ?_
      iterate 3 (refine Run.op (by simp only [go_sem, hs] <;> rfl) (by simp only [go_sem] <;> rfl) ?_)
      refine Run.op (by simp only [go_sem, hs]; (try simp (disch := omega) only [if_pos]); (try simp only [go_sem, hs])<;> rfl) (by simp only [go_sem] <;> rfl) ?_
      refine Run.op (by simp only [go_sem, hs] <;> rfl) (by simp only [go_sem] <;> rfl) ?_
      refine Run.calw (by simp only [go_sem] <;> rfl) (hp s) (by assumption) (by simp only [go_sem, hs] <;> rfl) (by simp only [go_sem, hs] <;> rfl) (by exact ⟨by first | exact WkR.pure rfl | exact WkR.nil _ | exact WkR.int (by omega), wkr_caps _ _ _⟩) (fr0) (by simp only [go_sem, hs] <;> rfl) ?_
      refine Run.nil ?_
      refine Exec.cnd (by simp only [go_sem, hs] <;> rfl) (fun hb16 => ?_) (fun hb16 => ?_)
      · skip
        have hr := find_at hX hs hb16
        refine Exec.reg ?_
        iterate 2 (refine Run.op (by simp only [go_sem, hs, hr, idxI] <;> rfl) (by simp only [go_sem] <;> rfl) ?_)
        refine Run.nil ?_
        refine BlkK.ret ?_
        refine ForK.ret ?_
        refine BlkK.ret ?_
        exact Ends.fin [] (rs := [.tmp 4]) rfl (by simp only [go_sem, hs, hr, idxI] <;> rfl) (by simp only [go_sem, hs, hr, idxI] <;> first | rfl | ((repeat' (first | with_reducible_and_instances rfl | refine st_eq ?_ ?_ ?_ | refine ret_eq ?_ | refine tup_eq ?_ | refine tm_eq ?_ ?_ | refine arr_eq ?_ | refine cells_eq ?_ | refine val_eq ?_ | refine ls_eq ?_ ?_ | refine own_eq ?_ ?_ | refine sl_eq ?_ | refine b_eq ?_ | (refine i_eq ?_; omega))); done))
      · skip
        refine BlkK.nrm ?_
        refine Exec.reg1 ?_
        refine Run.op (by simp only [go_sem, hs]; (try simp (disch := omega) only [IntWalk.i64_in, IntWalk.u64_in, if_neg, if_pos])<;> rfl) (by simp only [go_sem] <;> rfl) ?_
        refine Run.op (by simp only [go_sem, hs] <;> rfl) (by simp only [go_sem] <;> rfl) ?_
        refine Run.nil ?_
        refine ForK.nxt ?_ ?_ ?_
        · omega
        · exact Ghost.kp [0, 1, 7, 8] [] (by simp only [go_sem, hs]; first | ((repeat' (first | with_reducible_and_instances rfl | refine st_eq ?_ ?_ ?_ | refine ret_eq ?_ | refine tup_eq ?_ | refine tm_eq ?_ ?_ | refine arr_eq ?_ | refine cells_eq ?_ | refine val_eq ?_ | refine ls_eq ?_ ?_ | refine own_eq ?_ ?_ | refine sl_eq ?_ | refine b_eq ?_ | (refine i_eq ?_; omega))); done) | rfl)
        · exact any_step hX hs hb16
    · skip
      have hr := find_none hX (ge_of_dec hb9)
      refine Exec.exitS ?_
      refine ForK.ext ?_
      refine BlkK.hit ?_
      refine Exec.reg ?_
      refine Run.op (by simp only [go_sem, hr, idxI] <;> rfl) (by simp only [go_sem] <;> rfl) ?_
      refine Run.nil ?_
      exact Ends.fin [] (rs := [.tmp 4]) rfl (by simp only [go_sem, hr, idxI] <;> rfl) (by simp only [go_sem, hr, idxI] <;> first | rfl | ((repeat' (first | with_reducible_and_instances rfl | refine st_eq ?_ ?_ ?_ | refine ret_eq ?_ | refine tup_eq ?_ | refine tm_eq ?_ ?_ | refine arr_eq ?_ | refine cells_eq ?_ | refine val_eq ?_ | refine ls_eq ?_ ?_ | refine own_eq ?_ ?_ | refine sl_eq ?_ | refine b_eq ?_ | (refine i_eq ?_; omega))); done))

set_option maxRecDepth 20000 in
/-- slices.ContainsFunc[[]meterworks/api.Reading,meterworks/api.Reading] -/
theorem c_ContainsFunc_Reading {g : FuncId} {ds : List D} (p : Reading → Bool) (hg : canCall Try.prog g = true) (hp : ∀ s, Contract Try.prog g (readingV s :: ds.map fun x => .leaf (.d x)) (.bool (p s)) []) (l : List Reading) (hl : l.length ≤ 1000) : Contract Try.prog 53 [.leaf (.d (.sl 3 (l.map encReading))), .leaf (.d (.fn g ds))] (.bool (l.any p)) [] := by
  refine con_of follows_mixed Try.func53 rfl (by simp only [List.length_cons, List.length_nil, Try.ntmps53]; omega) (by kernel_rfl) rfl ?_
  refine Exec.reg ?_
  refine Run.op (by simp only [go_sem, idxI_ge, find_any] <;> rfl) (by simp only [go_sem] <;> rfl) ?_
  refine Run.nil ?_
  refine Exec.reg ?_
  iterate 2 (refine Run.op (by simp only [go_sem, idxI_ge, find_any] <;> rfl) (by simp only [go_sem] <;> rfl) ?_)
  refine Run.cal (c_IndexFunc_Reading p hg hp l hl) (by simp only [go_sem]) (by simp only [go_sem, idxI_ge, find_any] <;> rfl) (by exact ⟨by first | exact WkR.pure rfl | exact WkR.nil _ | exact WkR.int (by first | omega | (simp; done) | (simp; omega)), by first | exact WkR.pure rfl | exact WkR.nil _ | exact WkR.int (by first | omega | (simp; done) | (simp; omega)), trivial⟩) (fr0) (by simp only [go_sem, idxI_ge, find_any] <;> rfl) ?_
  iterate 2 (refine Run.op (by simp only [go_sem, idxI_ge, find_any] <;> rfl) (by simp only [go_sem] <;> rfl) ?_)
  refine Run.nil ?_
  exact Ends.fin [] (rs := [.tmp 4]) rfl (by simp only [go_sem, idxI_ge, find_any] <;> rfl) (by simp only [go_sem, idxI_ge, find_any] <;> first | rfl | ((repeat' (first | with_reducible_and_instances rfl | refine st_eq ?_ ?_ ?_ | refine ret_eq ?_ | refine tup_eq ?_ | refine tm_eq ?_ ?_ | refine arr_eq ?_ | refine cells_eq ?_ | refine val_eq ?_ | refine ls_eq ?_ ?_ | refine own_eq ?_ ?_ | refine sl_eq ?_ | refine b_eq ?_ | (refine i_eq ?_; omega))); done))

set_option maxRecDepth 20000 in
/-- meterworks/card.isWalk_1 -/
theorem c_isWalk_1 (s : Span) : Contract Try.prog 50 [spanV s] (.bool (!rateB s)) [] := by
  refine con_of follows_mixed Try.func50 rfl (by simp only [List.length_cons, List.length_nil, Try.ntmps50]; omega) (by kernel_rfl) rfl ?_
  refine Exec.reg ?_
  iterate 2 (refine Run.op (by simp only [go_sem, rateB, Bool.not_not] <;> rfl) (by simp only [go_sem] <;> rfl) ?_)
  refine Run.nil ?_
  refine Exec.reg ?_
  iterate 4 (refine Run.op (by simp only [go_sem, rateB, Bool.not_not] <;> rfl) (by simp only [go_sem] <;> rfl) ?_)
  refine Run.gop (by simp only [go_sem] <;> rfl) (by simp only [go_sem, rateB, Bool.not_not] <;> rfl) (by simp only [go_sem] <;> rfl) ?_
  refine Run.gop (by simp only [go_sem] <;> rfl) (by simp only [go_sem, rateB, Bool.not_not] <;> rfl) (by simp only [go_sem] <;> rfl) ?_
  refine Run.gop (by simp only [go_sem] <;> rfl) (by simp only [go_sem, rateB, Bool.not_not] <;> rfl) (by simp only [go_sem] <;> rfl) ?_
  refine Run.gop (by simp only [go_sem] <;> rfl) (by simp only [go_sem, rateB, Bool.not_not] <;> rfl) (by simp only [go_sem] <;> rfl) ?_
  refine Run.gop (by simp only [go_sem] <;> rfl) (by simp only [go_sem, rateB, Bool.not_not] <;> rfl) (by simp only [go_sem] <;> rfl) ?_
  iterate 2 (refine Run.op (by simp only [go_sem, rateB, Bool.not_not] <;> rfl) (by simp only [go_sem] <;> rfl) ?_)
  refine Run.gop (by simp only [go_sem] <;> rfl) (by simp only [go_sem, rateB, Bool.not_not] <;> rfl) (by simp only [go_sem] <;> rfl) ?_
  refine Run.gop (by simp only [go_sem] <;> rfl) (by simp only [go_sem, rateB, Bool.not_not] <;> rfl) (by simp only [go_sem] <;> rfl) ?_
  refine Run.gop (by simp only [go_sem] <;> rfl) (by simp only [go_sem, rateB, Bool.not_not] <;> rfl) (by simp only [go_sem] <;> rfl) ?_
  iterate 2 (refine Run.op (by simp only [go_sem, rateB, Bool.not_not] <;> rfl) (by simp only [go_sem] <;> rfl) ?_)
  refine Run.nil ?_
  exact Ends.fin [] (rs := [.tmp 2]) rfl (by simp only [go_sem, rateB, Bool.not_not] <;> rfl) (by simp only [go_sem, rateB, Bool.not_not] <;> first | rfl | ((repeat' (first | with_reducible_and_instances rfl | refine st_eq ?_ ?_ ?_ | refine ret_eq ?_ | refine tup_eq ?_ | refine tm_eq ?_ ?_ | refine arr_eq ?_ | refine cells_eq ?_ | refine val_eq ?_ | refine ls_eq ?_ ?_ | refine own_eq ?_ ?_ | refine sl_eq ?_ | refine b_eq ?_ | (refine i_eq ?_; omega))); done))

set_option maxRecDepth 20000 in
/-- meterworks/card.isWalk_2 -/
theorem c_isWalk_2 (w : Walk) (h1 : w.rates.length ≤ 1000) (r : Reading) : Contract Try.prog 51 [readingV r, .leaf (.d (.pt (walkD w)))] (.bool (!readB w.rates.length r)) [] := by
  refine con_of follows_mixed Try.func51 rfl (by simp only [List.length_cons, List.length_nil, Try.ntmps51]; omega) (by kernel_rfl) rfl ?_
  refine Exec.reg ?_
  iterate 2 (refine Run.op (by simp only [go_sem, readB, Bool.not_and] <;> rfl) (by simp only [go_sem] <;> rfl) ?_)
  refine Run.nil ?_
  refine Exec.reg ?_
  iterate 5 (refine Run.op (by simp only [go_sem, readB, Bool.not_and] <;> rfl) (by simp only [go_sem] <;> rfl) ?_)
  refine Run.op (by simp only [go_sem, readB, Bool.not_and]; (try simp (disch := omega) only [IntWalk.i64_in, IntWalk.u64_in, if_neg, if_pos])<;> rfl) (by simp only [go_sem] <;> rfl) ?_
  refine Run.cal (c_card_within _ _ _) (by simp only [go_sem]) (by simp only [go_sem, readB, Bool.not_and] <;> rfl) (by exact ⟨by first | exact WkR.pure rfl | exact WkR.nil _ | exact WkR.int (by first | omega | (simp; done) | (simp; omega)), by first | exact WkR.pure rfl | exact WkR.nil _ | exact WkR.int (by first | omega | (simp; done) | (simp; omega)), by first | exact WkR.pure rfl | exact WkR.nil _ | exact WkR.int (by first | omega | (simp; done) | (simp; omega)), trivial⟩) (fr0) (by simp only [go_sem, readB, Bool.not_and] <;> rfl) ?_
  iterate 2 (refine Run.op (by simp only [go_sem, readB, Bool.not_and] <;> rfl) (by simp only [go_sem] <;> rfl) ?_)
  refine Run.gop (by simp only [go_sem] <;> rfl) (by simp only [go_sem, readB, Bool.not_and] <;> rfl) (by simp only [go_sem] <;> rfl) ?_
  refine Run.gop (by simp only [go_sem] <;> rfl) (by simp only [go_sem, readB, Bool.not_and] <;> rfl) (by simp only [go_sem] <;> rfl) ?_
  refine Run.gcal (by simp only [go_sem] <;> rfl) (c_card_within _ _ _) (by simp only [go_sem]) (by simp only [go_sem, readB, Bool.not_and] <;> rfl) (by exact ⟨by first | exact WkR.pure rfl | exact WkR.nil _ | exact WkR.int (by first | omega | (simp; done) | (simp; omega)), by first | exact WkR.pure rfl | exact WkR.nil _ | exact WkR.int (by first | omega | (simp; done) | (simp; omega)), by first | exact WkR.pure rfl | exact WkR.nil _ | exact WkR.int (by first | omega | (simp; done) | (simp; omega)), trivial⟩) (by simp only [go_sem, readB, Bool.not_and] <;> rfl) ?_
  refine Run.gop (by simp only [go_sem] <;> rfl) (by simp only [go_sem, readB, Bool.not_and] <;> rfl) (by simp only [go_sem] <;> rfl) ?_
  iterate 2 (refine Run.op (by simp only [go_sem, readB, Bool.not_and] <;> rfl) (by simp only [go_sem] <;> rfl) ?_)
  refine Run.gop (by simp only [go_sem] <;> rfl) (by simp only [go_sem, readB, Bool.not_and] <;> rfl) (by simp only [go_sem] <;> rfl) ?_
  refine Run.gop (by simp only [go_sem] <;> rfl) (by simp only [go_sem, readB, Bool.not_and] <;> rfl) (by simp only [go_sem] <;> rfl) ?_
  refine Run.gcal (by simp only [go_sem] <;> rfl) (c_card_within _ _ _) (by simp only [go_sem]) (by simp only [go_sem, readB, Bool.not_and] <;> rfl) (by exact ⟨by first | exact WkR.pure rfl | exact WkR.nil _ | exact WkR.int (by first | omega | (simp; done) | (simp; omega)), by first | exact WkR.pure rfl | exact WkR.nil _ | exact WkR.int (by first | omega | (simp; done) | (simp; omega)), by first | exact WkR.pure rfl | exact WkR.nil _ | exact WkR.int (by first | omega | (simp; done) | (simp; omega)), trivial⟩) (by simp only [go_sem, readB, Bool.not_and] <;> rfl) ?_
  refine Run.gop (by simp only [go_sem] <;> rfl) (by simp only [go_sem, readB, Bool.not_and] <;> rfl) (by simp only [go_sem] <;> rfl) ?_
  iterate 2 (refine Run.op (by simp only [go_sem, readB, Bool.not_and] <;> rfl) (by simp only [go_sem] <;> rfl) ?_)
  refine Run.nil ?_
  exact Ends.fin [] (rs := [.tmp 3]) rfl (by simp only [go_sem, readB, Bool.not_and] <;> rfl) (by simp only [go_sem, readB, Bool.not_and] <;> first | rfl | ((repeat' (first | with_reducible_and_instances rfl | refine st_eq ?_ ?_ ?_ | refine ret_eq ?_ | refine tup_eq ?_ | refine tm_eq ?_ ?_ | refine arr_eq ?_ | refine cells_eq ?_ | refine val_eq ?_ | refine ls_eq ?_ ?_ | refine own_eq ?_ ?_ | refine sl_eq ?_ | refine b_eq ?_ | (refine i_eq ?_; omega))); done))

set_option maxRecDepth 20000 in
/-- meterworks/card.isWalk -/
theorem c_card_isWalk (w : Walk) (h1 : w.rates.length ≤ 1000) (h2 : w.readings.length ≤ 1000) : Contract Try.prog 33 [walkV w] (.bool (walkB w)) [] := by
  have e1 : w.rates.any (fun s => !rateB s) = !w.rates.all rateB := by rw [List.not_all_eq_any_not]
  have e2 : w.readings.any (fun s => !readB w.rates.length s) = !w.readings.all (readB w.rates.length) := by rw [List.not_all_eq_any_not]
  have hr : walkB w = (inB w.rates.length 1 8 && decide ((w.readings.length : Int) ≤ 24) && w.rates.all rateB && w.readings.all (readB w.rates.length)) := by rw [walkB, Bool.and_comm]; simp only [Bool.and_assoc]
  refine con_of follows_mixed Try.func33 rfl (by simp only [List.length_cons, List.length_nil, Try.ntmps33]; omega) (by kernel_rfl) rfl ?_
  refine Exec.reg ?_
  iterate 2 (refine Run.op (by simp only [go_sem, e1, e2, Bool.not_not, hr] <;> rfl) (by simp only [go_sem] <;> rfl) ?_)
  refine Run.nil ?_
  refine Exec.reg ?_
  refine Run.op (by simp only [go_sem, e1, e2, Bool.not_not, hr] <;> rfl) (by simp only [go_sem] <;> rfl) ?_
  refine Run.nil ?_
  refine Exec.reg ?_
  refine Run.frz 1 (by simp only [go_sem] <;> rfl) ?_
  iterate 2 (refine Run.op (by simp only [go_sem, e1, e2, Bool.not_not, hr] <;> rfl) (by simp only [go_sem] <;> rfl) ?_)
  refine Run.nil ?_
  refine Exec.reg ?_
  iterate 3 (refine Run.op (by simp only [go_sem, e1, e2, Bool.not_not, hr] <;> rfl) (by simp only [go_sem] <;> rfl) ?_)
  refine Run.cal (c_card_within _ _ _) (by simp only [go_sem]) (by simp only [go_sem, e1, e2, Bool.not_not, hr] <;> rfl) (by exact ⟨by first | exact WkR.pure rfl | exact WkR.nil _ | exact WkR.int (by first | omega | (simp; done) | (simp; omega)), by first | exact WkR.pure rfl | exact WkR.nil _ | exact WkR.int (by first | omega | (simp; done) | (simp; omega)), by first | exact WkR.pure rfl | exact WkR.nil _ | exact WkR.int (by first | omega | (simp; done) | (simp; omega)), trivial⟩) (fr0) (by simp only [go_sem, e1, e2, Bool.not_not, hr] <;> rfl) ?_
  refine Run.op (by simp only [go_sem, e1, e2, Bool.not_not, hr] <;> rfl) (by simp only [go_sem] <;> rfl) ?_
  refine Run.gop (by simp only [go_sem] <;> rfl) (by simp only [go_sem, e1, e2, Bool.not_not, hr] <;> rfl) (by simp only [go_sem] <;> rfl) ?_
  refine Run.gop (by simp only [go_sem] <;> rfl) (by simp only [go_sem, e1, e2, Bool.not_not, hr] <;> rfl) (by simp only [go_sem] <;> rfl) ?_
  refine Run.gop (by simp only [go_sem] <;> rfl) (by simp only [go_sem, e1, e2, Bool.not_not, hr] <;> rfl) (by simp only [go_sem] <;> rfl) ?_
  refine Run.gop (by simp only [go_sem] <;> rfl) (by simp only [go_sem, e1, e2, Bool.not_not, hr] <;> rfl) (by simp only [go_sem] <;> rfl) ?_
  iterate 2 (refine Run.op (by simp only [go_sem, e1, e2, Bool.not_not, hr] <;> rfl) (by simp only [go_sem] <;> rfl) ?_)
  refine Run.nil ?_
  refine Exec.reg ?_
  iterate 2 (refine Run.op (by simp only [go_sem, e1, e2, Bool.not_not, hr] <;> rfl) (by simp only [go_sem] <;> rfl) ?_)
  refine Run.gop (by simp only [go_sem] <;> rfl) (by simp only [go_sem, e1, e2, Bool.not_not, hr] <;> rfl) (by simp only [go_sem] <;> rfl) ?_
  refine Run.gop (by simp only [go_sem] <;> rfl) (by simp only [go_sem, e1, e2, Bool.not_not, hr] <;> rfl) (by simp only [go_sem] <;> rfl) ?_
  refine Run.gop (by simp only [go_sem] <;> rfl) (by simp only [go_sem, e1, e2, Bool.not_not, hr] <;> rfl) (by simp only [go_sem] <;> rfl) ?_
  refine Run.gcal (by simp only [go_sem] <;> rfl) (c_ContainsFunc_Span (fun s => !rateB s) (ds := []) (by simp only [go_sem]) (fun s => c_isWalk_1 s) w.rates h1) (by simp only [go_sem]) (by simp only [go_sem, e1, e2, Bool.not_not, hr] <;> rfl) (by exact ⟨by first | exact WkR.pure rfl | exact WkR.nil _ | exact WkR.int (by first | omega | (simp; done) | (simp; omega)), by first | exact WkR.pure rfl | exact WkR.nil _ | exact WkR.int (by first | omega | (simp; done) | (simp; omega)), trivial⟩) (by simp only [go_sem, e1, e2, Bool.not_not, hr] <;> rfl) ?_
  refine Run.gop (by simp only [go_sem] <;> rfl) (by simp only [go_sem, e1, e2, Bool.not_not, hr] <;> rfl) (by simp only [go_sem] <;> rfl) ?_
  iterate 2 (refine Run.op (by simp only [go_sem, e1, e2, Bool.not_not, hr] <;> rfl) (by simp only [go_sem] <;> rfl) ?_)
  refine Run.gop (by simp only [go_sem] <;> rfl) (by simp only [go_sem, e1, e2, Bool.not_not, hr] <;> rfl) (by simp only [go_sem] <;> rfl) ?_
  refine Run.gop (by simp only [go_sem] <;> rfl) (by simp only [go_sem, e1, e2, Bool.not_not, hr] <;> rfl) (by simp only [go_sem] <;> rfl) ?_
  refine Run.gop (by simp only [go_sem] <;> rfl) (by simp only [go_sem, e1, e2, Bool.not_not, hr] <;> rfl) (by simp only [go_sem] <;> rfl) ?_
  refine Run.gcal (by simp only [go_sem] <;> rfl) (c_ContainsFunc_Reading (fun s => !readB w.rates.length s) (ds := [.pt (walkD w)]) (by simp only [go_sem]) (fun s => c_isWalk_2 w h1 s) w.readings h2) (by simp only [go_sem]) (by simp only [go_sem, e1, e2, Bool.not_not, hr] <;> rfl) (by exact ⟨by first | exact WkR.pure rfl | exact WkR.nil _ | exact WkR.int (by first | omega | (simp; done) | (simp; omega)), by first | exact WkR.pure rfl | exact WkR.nil _ | exact WkR.int (by first | omega | (simp; done) | (simp; omega)), trivial⟩) (by simp only [go_sem, e1, e2, Bool.not_not, hr] <;> rfl) ?_
  refine Run.gop (by simp only [go_sem] <;> rfl) (by simp only [go_sem, e1, e2, Bool.not_not, hr] <;> rfl) (by simp only [go_sem] <;> rfl) ?_
  iterate 2 (refine Run.op (by simp only [go_sem, e1, e2, Bool.not_not, hr] <;> rfl) (by simp only [go_sem] <;> rfl) ?_)
  refine Run.nil ?_
  exact Ends.fin [] (rs := [.tmp 2]) rfl (by simp only [go_sem, e1, e2, Bool.not_not, hr] <;> rfl) (by simp only [go_sem, e1, e2, Bool.not_not, hr] <;> first | rfl | ((repeat' (first | with_reducible_and_instances rfl | refine st_eq ?_ ?_ ?_ | refine ret_eq ?_ | refine tup_eq ?_ | refine tm_eq ?_ ?_ | refine arr_eq ?_ | refine cells_eq ?_ | refine val_eq ?_ | refine ls_eq ?_ ?_ | refine own_eq ?_ ?_ | refine sl_eq ?_ | refine b_eq ?_ | (refine i_eq ?_; omega))); done))

set_option maxRecDepth 20000 in
/-- (meterworks/card.bounds[int]).and -/
theorem c_bounds_and (b c : Bds) : Contract Try.prog 39 [bdsV b, bdsV c] (bdsV ⟨max b.low c.low, min b.high c.high⟩) [] := by
  refine con_of follows_mixed Try.func39 rfl (by simp only [List.length_cons, List.length_nil, Try.ntmps39]; omega) (by kernel_rfl) rfl ?_
  refine Exec.reg ?_
  iterate 3 (refine Run.op (by simp only [go_sem, pick_max, pick_min] <;> rfl) (by simp only [go_sem] <;> rfl) ?_)
  refine Run.nil ?_
  refine Exec.reg ?_
  iterate 12 (refine Run.op (by simp only [go_sem, pick_max, pick_min] <;> rfl) (by simp only [go_sem] <;> rfl) ?_)
  refine Run.nil ?_
  exact Ends.fin [] (rs := [.cell 4 72]) rfl (by simp only [go_sem, pick_max, pick_min] <;> rfl) (by simp only [go_sem, pick_max, pick_min] <;> first | rfl | ((repeat' (first | with_reducible_and_instances rfl | refine st_eq ?_ ?_ ?_ | refine ret_eq ?_ | refine tup_eq ?_ | refine tm_eq ?_ ?_ | refine arr_eq ?_ | refine cells_eq ?_ | refine val_eq ?_ | refine ls_eq ?_ ?_ | refine own_eq ?_ ?_ | refine sl_eq ?_ | refine b_eq ?_ | (refine i_eq ?_; omega))); done))

set_option maxRecDepth 20000 in
/-- (meterworks/card.bounds[int]).has -/
theorem c_bounds_has (b : Bds) (n : Int) : Contract Try.prog 59 [bdsV b, .int n] (.bool (inB n b.low b.high)) [] := by
  refine con_of follows_mixed Try.func59 rfl (by simp only [List.length_cons, List.length_nil, Try.ntmps59]; omega) (by kernel_rfl) rfl ?_
  refine Exec.reg ?_
  iterate 2 (refine Run.op (by simp only [go_sem, inB] <;> rfl) (by simp only [go_sem] <;> rfl) ?_)
  refine Run.nil ?_
  refine Exec.reg ?_
  iterate 5 (refine Run.op (by simp only [go_sem, inB] <;> rfl) (by simp only [go_sem] <;> rfl) ?_)
  refine Run.gop (by simp only [go_sem] <;> rfl) (by simp only [go_sem, inB] <;> rfl) (by simp only [go_sem] <;> rfl) ?_
  refine Run.gop (by simp only [go_sem] <;> rfl) (by simp only [go_sem, inB] <;> rfl) (by simp only [go_sem] <;> rfl) ?_
  refine Run.gop (by simp only [go_sem] <;> rfl) (by simp only [go_sem, inB] <;> rfl) (by simp only [go_sem] <;> rfl) ?_
  refine Run.gop (by simp only [go_sem] <;> rfl) (by simp only [go_sem, inB] <;> rfl) (by simp only [go_sem] <;> rfl) ?_
  iterate 2 (refine Run.op (by simp only [go_sem, inB] <;> rfl) (by simp only [go_sem] <;> rfl) ?_)
  refine Run.nil ?_
  exact Ends.fin [] (rs := [.tmp 4]) rfl (by simp only [go_sem, inB] <;> rfl) (by simp only [go_sem, inB] <;> first | rfl | ((repeat' (first | with_reducible_and_instances rfl | refine st_eq ?_ ?_ ?_ | refine ret_eq ?_ | refine tup_eq ?_ | refine tm_eq ?_ ?_ | refine arr_eq ?_ | refine cells_eq ?_ | refine val_eq ?_ | refine ls_eq ?_ ?_ | refine own_eq ?_ ?_ | refine sl_eq ?_ | refine b_eq ?_ | (refine i_eq ?_; omega))); done))

set_option maxRecDepth 20000 in
/-- meterworks/card.taken -/
theorem c_card_taken (s : Span) (n : Int) (hs : 0 ≤ s.lo ∧ s.lo ≤ s.hi ∧ s.hi ≤ 100000) (hn : -200000 ≤ n ∧ n ≤ 200000) : Contract Try.prog 38 [spanV s, .int n] (bdsV (takenS s n)) [] := by
  have m1 := mulB (a := s.lo) (b := n) (by omega) (by omega)
  have m2 := mulB (a := s.hi) (b := n) (by omega) (by omega)
  refine con_of follows_mixed Try.func38 rfl (by simp only [List.length_cons, List.length_nil, Try.ntmps38]; omega) (by kernel_rfl) rfl ?_
  refine Exec.reg ?_
  iterate 2 (refine Run.op (by simp only [go_sem] <;> rfl) (by simp only [go_sem] <;> rfl) ?_)
  refine Run.nil ?_
  refine Exec.assocS ?_
  refine Exec.reg ?_
  iterate 2 (refine Run.op (by simp only [go_sem] <;> rfl) (by simp only [go_sem] <;> rfl) ?_)
  refine Run.nil ?_
  refine Exec.cndS (by simp only [go_sem] <;> rfl) (fun hb6 => ?_) (fun hb6 => ?_)
  · skip
    have hr : takenS s n = ⟨s.hi * n, s.lo * n⟩ := if_pos (of_decide_eq_true hb6)
    refine Exec.assocS ?_
    refine Exec.reg ?_
    iterate 3 (refine Run.op (by simp only [go_sem, hr] <;> rfl) (by simp only [go_sem] <;> rfl) ?_)
    refine Run.op (by simp only [go_sem, hr]; (try simp (disch := omega) only [IntWalk.i64_in, IntWalk.u64_in, if_neg, if_pos])<;> rfl) (by simp only [go_sem] <;> rfl) ?_
    iterate 3 (refine Run.op (by simp only [go_sem, hr] <;> rfl) (by simp only [go_sem] <;> rfl) ?_)
    refine Run.op (by simp only [go_sem, hr]; (try simp (disch := omega) only [IntWalk.i64_in, IntWalk.u64_in, if_neg, if_pos])<;> rfl) (by simp only [go_sem] <;> rfl) ?_
    iterate 2 (refine Run.op (by simp only [go_sem, hr] <;> rfl) (by simp only [go_sem] <;> rfl) ?_)
    refine Run.nil ?_
    refine Exec.retS ?_
    exact Ends.fin [] (rs := [.cell 4 72]) rfl (by simp only [go_sem, hr] <;> rfl) (by simp only [go_sem, hr] <;> first | rfl | ((repeat' (first | with_reducible_and_instances rfl | refine st_eq ?_ ?_ ?_ | refine ret_eq ?_ | refine tup_eq ?_ | refine tm_eq ?_ ?_ | refine arr_eq ?_ | refine cells_eq ?_ | refine val_eq ?_ | refine ls_eq ?_ ?_ | refine own_eq ?_ ?_ | refine sl_eq ?_ | refine b_eq ?_ | (refine i_eq ?_; omega))); done))
  · skip
    have hr : takenS s n = ⟨s.lo * n, s.hi * n⟩ := if_neg (of_decide_eq_false hb6)
    refine Exec.skipS ?_
    refine Exec.reg ?_
    iterate 3 (refine Run.op (by simp only [go_sem, hr] <;> rfl) (by simp only [go_sem] <;> rfl) ?_)
    refine Run.op (by simp only [go_sem, hr]; (try simp (disch := omega) only [IntWalk.i64_in, IntWalk.u64_in, if_neg, if_pos])<;> rfl) (by simp only [go_sem] <;> rfl) ?_
    iterate 3 (refine Run.op (by simp only [go_sem, hr] <;> rfl) (by simp only [go_sem] <;> rfl) ?_)
    refine Run.op (by simp only [go_sem, hr]; (try simp (disch := omega) only [IntWalk.i64_in, IntWalk.u64_in, if_neg, if_pos])<;> rfl) (by simp only [go_sem] <;> rfl) ?_
    iterate 2 (refine Run.op (by simp only [go_sem, hr] <;> rfl) (by simp only [go_sem] <;> rfl) ?_)
    refine Run.nil ?_
    exact Ends.fin [] (rs := [.cell 4 72]) rfl (by simp only [go_sem, hr] <;> rfl) (by simp only [go_sem, hr] <;> first | rfl | ((repeat' (first | with_reducible_and_instances rfl | refine st_eq ?_ ?_ ?_ | refine ret_eq ?_ | refine tup_eq ?_ | refine tm_eq ?_ ?_ | refine arr_eq ?_ | refine cells_eq ?_ | refine val_eq ?_ | refine ls_eq ?_ ?_ | refine own_eq ?_ ?_ | refine sl_eq ?_ | refine b_eq ?_ | (refine i_eq ?_; omega))); done))

set_option maxRecDepth 20000 in
/-- cmp.isNaN[int] -/
theorem c_isNaN (n : Int) : Contract Try.prog 65 [.int n] (.bool false) [] := by
  refine con_of follows_mixed Try.func65 rfl (by simp only [List.length_cons, List.length_nil, Try.ntmps65]; omega) (by kernel_rfl) rfl ?_
  refine Exec.reg ?_
  refine Run.op (by simp only [go_sem, bne_self_eq_false] <;> rfl) (by simp only [go_sem] <;> rfl) ?_
  refine Run.nil ?_
  refine Exec.reg ?_
  iterate 4 (refine Run.op (by simp only [go_sem, bne_self_eq_false] <;> rfl) (by simp only [go_sem] <;> rfl) ?_)
  refine Run.nil ?_
  exact Ends.fin [] (rs := [.tmp 2]) rfl (by simp only [go_sem, bne_self_eq_false] <;> rfl) (by simp only [go_sem, bne_self_eq_false] <;> first | rfl | ((repeat' (first | with_reducible_and_instances rfl | refine st_eq ?_ ?_ ?_ | refine ret_eq ?_ | refine tup_eq ?_ | refine tm_eq ?_ ?_ | refine arr_eq ?_ | refine cells_eq ?_ | refine val_eq ?_ | refine ls_eq ?_ ?_ | refine own_eq ?_ ?_ | refine sl_eq ?_ | refine b_eq ?_ | (refine i_eq ?_; omega))); done))

set_option maxRecDepth 20000 in
/-- cmp.Compare[int] -/
theorem c_Compare (a b : Int) : Contract Try.prog 58 [.int a, .int b] (.int (cmpI a b)) [] := by
  refine con_of follows_mixed Try.func58 rfl (by simp only [List.length_cons, List.length_nil, Try.ntmps58]; omega) (by kernel_rfl) rfl ?_
  refine Exec.reg ?_
  refine Run.op (by simp only [go_sem] <;> rfl) (by simp only [go_sem] <;> rfl) ?_
  refine Run.nil ?_
  refine Exec.reg ?_
  refine Run.op (by simp only [go_sem] <;> rfl) (by simp only [go_sem] <;> rfl) ?_
  refine Run.cal (c_isNaN _) (by simp only [go_sem]) (by simp only [go_sem] <;> rfl) (by exact ⟨by first | exact WkR.pure rfl | exact WkR.nil _ | exact WkR.int (by first | omega | (simp; done) | (simp; omega)), trivial⟩) (fr0) (by simp only [go_sem] <;> rfl) ?_
  refine Run.op (by simp only [go_sem] <;> rfl) (by simp only [go_sem] <;> rfl) ?_
  refine Run.nil ?_
  refine Exec.reg ?_
  refine Run.op (by simp only [go_sem] <;> rfl) (by simp only [go_sem] <;> rfl) ?_
  refine Run.cal (c_isNaN _) (by simp only [go_sem]) (by simp only [go_sem] <;> rfl) (by exact ⟨by first | exact WkR.pure rfl | exact WkR.nil _ | exact WkR.int (by first | omega | (simp; done) | (simp; omega)), trivial⟩) (fr0) (by simp only [go_sem] <;> rfl) ?_
  refine Run.op (by simp only [go_sem] <;> rfl) (by simp only [go_sem] <;> rfl) ?_
  refine Run.nil ?_
  refine Exec.assocS ?_
  refine Exec.reg ?_
  refine Run.op (by simp only [go_sem] <;> rfl) (by simp only [go_sem] <;> rfl) ?_
  refine Run.nil ?_
  refine Exec.cndS (by simp only [go_sem] <;> rfl) (fun hb11 => ?_) (fun hb11 => ?_)
  · exact absurd hb11 (by simp)
  · skip
    refine Exec.skipS ?_
    refine Exec.assocS ?_
    refine Exec.reg ?_
    refine Run.op (by simp only [go_sem] <;> rfl) (by simp only [go_sem] <;> rfl) ?_
    refine Run.nil ?_
    refine Exec.cndS (by simp only [go_sem] <;> rfl) (fun hb13 => ?_) (fun hb13 => ?_)
    · exact absurd hb13 (by simp)
    · skip
      refine Exec.skipS ?_
      refine Exec.assocS ?_
      refine Exec.reg ?_
      iterate 3 (refine Run.op (by simp only [go_sem] <;> rfl) (by simp only [go_sem] <;> rfl) ?_)
      refine Run.nil ?_
      refine Exec.cndS (by simp only [go_sem] <;> rfl) (fun hb16 => ?_) (fun hb16 => ?_)
      · skip
        have hr : cmpI a b = -1 := if_pos (of_decide_eq_true hb16)
        refine Exec.assocS ?_
        refine Exec.reg ?_
        refine Run.op (by simp only [go_sem, hr] <;> rfl) (by simp only [go_sem] <;> rfl) ?_
        refine Run.nil ?_
        refine Exec.retS ?_
        exact Ends.fin [] (rs := [.tmp 4]) rfl (by simp only [go_sem, hr] <;> rfl) (by simp only [go_sem, hr] <;> first | rfl | ((repeat' (first | with_reducible_and_instances rfl | refine st_eq ?_ ?_ ?_ | refine ret_eq ?_ | refine tup_eq ?_ | refine tm_eq ?_ ?_ | refine arr_eq ?_ | refine cells_eq ?_ | refine val_eq ?_ | refine ls_eq ?_ ?_ | refine own_eq ?_ ?_ | refine sl_eq ?_ | refine b_eq ?_ | (refine i_eq ?_; omega))); done))
      · skip
        refine Exec.skipS ?_
        refine Exec.assocS ?_
        refine Exec.reg ?_
        iterate 3 (refine Run.op (by simp only [go_sem] <;> rfl) (by simp only [go_sem] <;> rfl) ?_)
        refine Run.nil ?_
        refine Exec.cndS (by simp only [go_sem] <;> rfl) (fun hb19 => ?_) (fun hb19 => ?_)
        · skip
          have hr : cmpI a b = 1 := by have h1 := of_decide_eq_false hb16; have h2 := of_decide_eq_true hb19; rw [cmpI, if_neg h1, if_pos h2]
          refine Exec.assocS ?_
          refine Exec.reg ?_
          refine Run.op (by simp only [go_sem, hr] <;> rfl) (by simp only [go_sem] <;> rfl) ?_
          refine Run.nil ?_
          refine Exec.retS ?_
          exact Ends.fin [] (rs := [.tmp 4]) rfl (by simp only [go_sem, hr] <;> rfl) (by simp only [go_sem, hr] <;> first | rfl | ((repeat' (first | with_reducible_and_instances rfl | refine st_eq ?_ ?_ ?_ | refine ret_eq ?_ | refine tup_eq ?_ | refine tm_eq ?_ ?_ | refine arr_eq ?_ | refine cells_eq ?_ | refine val_eq ?_ | refine ls_eq ?_ ?_ | refine own_eq ?_ ?_ | refine sl_eq ?_ | refine b_eq ?_ | (refine i_eq ?_; omega))); done))
        · skip
          have hr : cmpI a b = 0 := by have h1 := of_decide_eq_false hb16; have h2 := of_decide_eq_false hb19; rw [cmpI, if_neg h1, if_neg h2]
          refine Exec.skipS ?_
          refine Exec.reg ?_
          refine Run.op (by simp only [go_sem, hr] <;> rfl) (by simp only [go_sem] <;> rfl) ?_
          refine Run.nil ?_
          exact Ends.fin [] (rs := [.tmp 4]) rfl (by simp only [go_sem, hr] <;> rfl) (by simp only [go_sem, hr] <;> first | rfl | ((repeat' (first | with_reducible_and_instances rfl | refine st_eq ?_ ?_ ?_ | refine ret_eq ?_ | refine tup_eq ?_ | refine tm_eq ?_ ?_ | refine arr_eq ?_ | refine cells_eq ?_ | refine val_eq ?_ | refine ls_eq ?_ ?_ | refine own_eq ?_ ?_ | refine sl_eq ?_ | refine b_eq ?_ | (refine i_eq ?_; omega))); done))

set_option maxRecDepth 20000 in
/-- meterworks/card.of_1_1 -/
theorem c_of_cmp (a b : Num) : Contract Try.prog 57 [numV a, numV b] (.int (cmpI a.1.day b.1.day)) [] := by
  refine con_of follows_mixed Try.func57 rfl (by simp only [List.length_cons, List.length_nil, Try.ntmps57]; omega) (by kernel_rfl) rfl ?_
  refine Exec.reg ?_
  iterate 3 (refine Run.op (by simp only [go_sem] <;> rfl) (by simp only [go_sem] <;> rfl) ?_)
  refine Run.nil ?_
  refine Exec.reg ?_
  iterate 6 (refine Run.op (by simp only [go_sem] <;> rfl) (by simp only [go_sem] <;> rfl) ?_)
  refine Run.cal (c_Compare _ _) (by simp only [go_sem]) (by simp only [go_sem] <;> rfl) (by exact ⟨by first | exact WkR.pure rfl | exact WkR.nil _ | exact WkR.int (by first | omega | (simp; done) | (simp; omega)), by first | exact WkR.pure rfl | exact WkR.nil _ | exact WkR.int (by first | omega | (simp; done) | (simp; omega)), trivial⟩) (fr0) (by simp only [go_sem] <;> rfl) ?_
  refine Run.op (by simp only [go_sem] <;> rfl) (by simp only [go_sem] <;> rfl) ?_
  refine Run.nil ?_
  exact Ends.fin [] (rs := [.tmp 4]) rfl (by simp only [go_sem] <;> rfl) (by simp only [go_sem] <;> first | rfl | ((repeat' (first | with_reducible_and_instances rfl | refine st_eq ?_ ?_ ?_ | refine ret_eq ?_ | refine tup_eq ?_ | refine tm_eq ?_ ?_ | refine arr_eq ?_ | refine cells_eq ?_ | refine val_eq ?_ | refine ls_eq ?_ ?_ | refine own_eq ?_ ?_ | refine sl_eq ?_ | refine b_eq ?_ | (refine i_eq ?_; omega))); done))

set_option maxRecDepth 20000 in
/-- meterworks/card.of -/
theorem c_card_of (w : Walk) (house : Int) : Contract Try.prog 37 [walkV w, .int house] (.leaf (.d (.fn 55 [.pt (walkD w), .pt [.i house]]))) [] := by
  refine con_of follows_mixed Try.func37 rfl (by simp only [List.length_cons, List.length_nil, Try.ntmps37]; omega) (by kernel_rfl) rfl ?_
  refine Exec.reg ?_
  iterate 3 (refine Run.op (by simp only [go_sem] <;> rfl) (by simp only [go_sem] <;> rfl) ?_)
  refine Run.nil ?_
  refine Exec.reg ?_
  refine Run.frz 2 (by simp only [go_sem] <;> rfl) ?_
  refine Run.frz 3 (by simp only [go_sem] <;> rfl) ?_
  iterate 2 (refine Run.op (by simp only [go_sem] <;> rfl) (by simp only [go_sem] <;> rfl) ?_)
  refine Run.nil ?_
  exact Ends.fin [] (rs := [.tmp 4]) rfl (by simp only [go_sem] <;> rfl) (by simp only [go_sem] <;> first | rfl | ((repeat' (first | with_reducible_and_instances rfl | refine st_eq ?_ ?_ ?_ | refine ret_eq ?_ | refine tup_eq ?_ | refine tm_eq ?_ ?_ | refine arr_eq ?_ | refine cells_eq ?_ | refine val_eq ?_ | refine ls_eq ?_ ?_ | refine own_eq ?_ ?_ | refine sl_eq ?_ | refine b_eq ?_ | (refine i_eq ?_; omega))); done))

end Go.Mw
namespace Go.Mw
open Go.Proofs
set_option maxRecDepth 20000 in
set_option maxHeartbeats 4000000 in
/-- slices.insertionSortCmpFunc[meterworks/card.numbered] -/
theorem c_insertionSort_numbered {g : FuncId} {ds : List D} (c : Num → Num → Int) (hg : canCall Try.prog g = true) (hc : ∀ x y, Contract Try.prog g (numV x :: numV y :: ds.map fun x => .leaf (.d x)) (.int (c x y)) []) (p s q : List Num) (n : Nat) (hn : (p ++ s ++ q).length = n) (hn2 : n ≤ 1000) : Con Try.prog 67 [.leaf (.own 900 0 n n), .int p.length, .int (p.length + s.length), .leaf (.d (.fn g ds))] [(900, .arr 77 4 ((p ++ s ++ q).map encNum))] (.ret (.tup []) [(900, .arr 77 4 ((p ++ isortE (fun x y => decide (c x y < 0)) s ++ q).map encNum))]) := by
  have hps : p.length + s.length + q.length = n := by rw [← hn]; simp; omega
  generalize hlt : (fun x y => decide (c x y < 0)) = lt
  refine con_of follows_mixed Try.func67 rfl (by simp only [List.length_cons, List.length_nil, Try.ntmps67]; omega) (by kernel_rfl) rfl ?_
  refine Exec.reg ?_
  refine Run.op (by simp only [go_sem] <;> rfl) (by simp only [go_sem] <;> rfl) ?_
  refine Run.op (by simp only [go_sem]; (try simp (disch := omega) only [IntWalk.i64_in, IntWalk.u64_in, if_neg, if_pos])<;> rfl) (by simp only [go_sem] <;> rfl) ?_
  refine Run.op (by simp only [go_sem] <;> rfl) (by simp only [go_sem] <;> rfl) ?_
  refine Run.nil ?_
  refine Exec.blk1 ?_
  refine Exec.forA [0, 1, 2, 3, 8] [900] (s.length) (fun k => [.slot 8 (.int ((p.length : Int) + 1 + k)), .obj 900 (.arr 77 4 ((p ++ (isortE lt (s.take (k + 1)) ++ s.drop (k + 1)) ++ q).map encNum))]) (fun _ => True) (fun k => by simp only [go_sem] <;> rfl) (by simp only [go_sem, Nat.zero_add, isortE_one, Int.natCast_zero, Int.add_zero] <;> rfl) ?_ (fun k hk hX => ?_)
  · trivial
  · skip
    refine Exec.assocS ?_
    refine Exec.reg ?_
    iterate 3 (refine Run.op (by simp only [go_sem] <;> rfl) (by simp only [go_sem] <;> rfl) ?_)
    refine Run.nil ?_
    refine Exec.cndS (by simp only [go_sem] <;> rfl) (fun hb14 => ?_) (fun hb14 => ?_)
    · skip
      have hk1 : k + 1 < s.length := by have := of_decide_eq_true hb14; omega
      have htl : (isortE lt (s.take (k + 1))).length = k + 1 := by rw [len_isortE]; simp; omega
      obtain ⟨x, hx⟩ : ∃ x, s[k + 1]? = some x := ⟨_, List.getElem?_eq_getElem hk1⟩
      have hdr : s.drop (k + 1) = x :: s.drop (k + 2) := by
        obtain ⟨h1, rfl⟩ := List.getElem?_eq_some_iff.1 hx
        exact (List.getElem_cons_drop h1).symm
      have e0 : Lt p (isortE lt (s.take (k + 1))) (s.drop (k + 2) ++ q) x (k + 1) = p ++ (isortE lt (s.take (k + 1)) ++ s.drop (k + 1)) ++ q := by
        have := Lt_start (p := p) (t := isortE lt (s.take (k + 1))) (r := s.drop (k + 2) ++ q) (x := x)
        rw [htl] at this
        rw [this, hdr]; simp
      refine Exec.skipS ?_
      refine Exec.blk ?_
      refine Exec.reg ?_
      iterate 2 (refine Run.op (by simp only [go_sem] <;> rfl) (by simp only [go_sem] <;> rfl) ?_)
      refine Run.nil ?_
      refine Exec.blk1 ?_
      refine Exec.forA [0, 1, 2, 3, 8, 9] [900] (k + 1) (fun j => [.slot 9 (.int ((p.length : Int) + 1 + k - j)), .obj 900 (.arr 77 4 ((Lt p (isortE lt (s.take (k + 1))) (s.drop (k + 2) ++ q) x (k + 1 - j)).map encNum))]) (fun j => scanE lt x (isortE lt (s.take (k + 1))) (k + 1) = scanE lt x (isortE lt (s.take (k + 1))) (k + 1 - j)) (fun j => by simp only [go_sem] <;> rfl) (by simp only [go_sem, Nat.sub_zero, e0, Int.natCast_zero, Int.sub_zero] <;> rfl) ?_ (fun j hj Xj => ?_)
      · rfl
      · skip
        refine Exec.assocS ?_
        by_cases hj1 : j < k + 1
        · skip
          have hg1 : decide ((p.length : Int) + 1 + k - j > p.length) = true := by simp; omega
          obtain ⟨y, hy⟩ : ∃ y, (isortE lt (s.take (k + 1)))[k - j]? = some y := ⟨_, List.getElem?_eq_getElem (by omega)⟩
          have hcj : k + 1 - j = k - j + 1 := by omega
          have hcj2 : k + 1 - (j + 1) = k - j := by omega
          have t1 : ((p.length : Int) + 1 + k - j).toNat = p.length + (k + 1 - j) := by omega
          have t2 : ((p.length : Int) + 1 + k - j - 1).toNat = p.length + (k - j) := by omega
          have fl : (Lt p (isortE lt (s.take (k + 1))) (s.drop (k + 2) ++ q) x (k + 1 - j)).length = n := by rw [Lt_len (by omega), htl, List.length_append, List.length_drop]; omega
          have fx := Lt_x (p := p) (t := isortE lt (s.take (k + 1))) (r := s.drop (k + 2) ++ q) (x := x) (c := k + 1 - j) (by omega)
          have fy : (Lt p (isortE lt (s.take (k + 1))) (s.drop (k + 2) ++ q) x (k + 1 - j))[p.length + (k - j)]? = some y := by rw [hcj]; exact Lt_y hy
          refine Exec.opk 19 ?_
          refine OpenK.op (by simp only [go_sem, hg1, t1, t2, fl, fx, fy] <;> rfl) (by simp only [go_sem] <;> rfl) (by simp only [go_sem] <;> rfl) ?_
          refine OpenK.op (by simp only [go_sem, hg1, t1, t2, fl, fx, fy] <;> rfl) (by simp only [go_sem] <;> rfl) (by simp only [go_sem] <;> rfl) ?_
          refine OpenK.op (by simp only [go_sem, hg1, t1, t2, fl, fx, fy] <;> rfl) (by simp only [go_sem] <;> rfl) (by simp only [go_sem] <;> rfl) ?_
          refine OpenK.op (by simp only [go_sem, hg1, t1, t2, fl, fx, fy] <;> rfl) (by simp only [go_sem] <;> rfl) (by simp only [go_sem] <;> rfl) ?_
          refine OpenK.yes (by simp only [go_sem] <;> rfl) (by simp only [go_sem, hg1, t1, t2, fl, fx, fy] <;> rfl) (by simp only [go_sem] <;> rfl) (by simp only [go_sem] <;> rfl) ?_
          refine OpenK.yes (by simp only [go_sem] <;> rfl) (by simp only [go_sem, hg1, t1, t2, fl, fx, fy] <;> rfl) (by simp only [go_sem] <;> rfl) (by simp only [go_sem] <;> rfl) ?_
          refine OpenK.yes (by simp only [go_sem] <;> rfl) (by simp only [go_sem, hg1, t1, t2, fl, fx, fy] <;> rfl) (by simp only [go_sem] <;> rfl) (by simp only [go_sem] <;> rfl) ?_
          refine OpenK.yes (by simp only [go_sem] <;> rfl) (by simp only [go_sem, hg1, t1, t2, fl, fx, fy]; (try simp (disch := omega) only [if_pos]); (try simp only [go_sem, hg1, t1, t2, fl, fx, fy])<;> rfl) (by simp only [go_sem] <;> rfl) (by simp only [go_sem] <;> rfl) ?_
          refine OpenK.yes (by simp only [go_sem] <;> rfl) (by simp only [go_sem, hg1, t1, t2, fl, fx, fy] <;> rfl) (by simp only [go_sem] <;> rfl) (by simp only [go_sem] <;> rfl) ?_
          refine OpenK.yes (by simp only [go_sem] <;> rfl) (by simp only [go_sem, hg1, t1, t2, fl, fx, fy] <;> rfl) (by simp only [go_sem] <;> rfl) (by simp only [go_sem] <;> rfl) ?_
          refine OpenK.yes (by simp only [go_sem] <;> rfl) (by simp only [go_sem, hg1, t1, t2, fl, fx, fy] <;> rfl) (by simp only [go_sem] <;> rfl) (by simp only [go_sem] <;> rfl) ?_
          refine OpenK.yes (by simp only [go_sem] <;> rfl) (by simp only [go_sem, hg1, t1, t2, fl, fx, fy]; (try simp (disch := omega) only [IntWalk.i64_in, IntWalk.u64_in, if_neg, if_pos])<;> rfl) (by simp only [go_sem] <;> rfl) (by simp only [go_sem] <;> rfl) ?_
          refine OpenK.yes (by simp only [go_sem] <;> rfl) (by simp only [go_sem, hg1, t1, t2, fl, fx, fy]; (try simp (disch := omega) only [if_pos]); (try simp only [go_sem, hg1, t1, t2, fl, fx, fy])<;> rfl) (by simp only [go_sem] <;> rfl) (by simp only [go_sem] <;> rfl) ?_
          refine OpenK.yes (by simp only [go_sem] <;> rfl) (by simp only [go_sem, hg1, t1, t2, fl, fx, fy] <;> rfl) (by simp only [go_sem] <;> rfl) (by simp only [go_sem] <;> rfl) ?_
          refine OpenK.calw (by simp only [go_sem] <;> rfl) (hc x y) (by assumption) (by simp only [go_sem, hg1, t1, t2, fl, fx, fy] <;> rfl) (by simp only [go_sem, hg1, t1, t2, fl, fx, fy] <;> rfl) (by exact ⟨by first | exact WkR.pure rfl | exact WkR.nil _ | exact WkR.int (by omega), by first | exact WkR.pure rfl | exact WkR.nil _ | exact WkR.int (by omega), wkr_caps _ _ _⟩) (fr0) (by simp only [go_sem, hg1, t1, t2, fl, fx, fy] <;> rfl) (by simp only [go_sem] <;> rfl) (by simp only [go_sem] <;> rfl) ?_
          refine OpenK.yes (by simp only [go_sem] <;> rfl) (by simp only [go_sem, hg1, t1, t2, fl, fx, fy] <;> rfl) (by simp only [go_sem] <;> rfl) (by simp only [go_sem] <;> rfl) ?_
          refine OpenK.op (by simp only [go_sem, hg1, t1, t2, fl, fx, fy] <;> rfl) (by simp only [go_sem] <;> rfl) (by simp only [go_sem] <;> rfl) ?_
          refine OpenK.nil (OpenE.finT (by kernel_rfl) (by kernel_rfl) (by kernel_rfl) ?_)
          refine Exec.cndS (by simp only [go_sem, hg1, t1, t2, fl, fx, fy] <;> rfl) (fun hb34 => ?_) (fun hb34 => ?_)
          · skip
            have hl : lt x y = true := by rw [← hlt]; exact hb34
            have hXn : scanE lt x (isortE lt (s.take (k + 1))) (k + 1) = scanE lt x (isortE lt (s.take (k + 1))) (k + 1 - (j + 1)) := by rw [Xj, hcj, scanE_yes hy hl, hcj2]
            have fset : Lt p (isortE lt (s.take (k + 1))) (s.drop (k + 2) ++ q) x (k + 1 - (j + 1)) = ((Lt p (isortE lt (s.take (k + 1))) (s.drop (k + 2) ++ q) x (k + 1 - j)).set (p.length + (k + 1 - j)) y).set (p.length + (k - j)) x := by
              have := Lt_set (p := p) (r := s.drop (k + 2) ++ q) (x := x) hy
              rw [hcj, hcj2]; exact this.symm
            have hne : p.length + (k + 1 - j) ≠ p.length + (k - j) := by omega
            refine Exec.skipS ?_
            refine Exec.blk ?_
            refine Exec.opk1 20 ?_
            refine OpenK.op (by simp only [go_sem, hg1, t1, t2, fl, fx, fy, List.getElem?_set_ne hne] <;> rfl) (by simp only [go_sem] <;> rfl) (by simp only [go_sem] <;> rfl) ?_
            refine OpenK.op (by simp only [go_sem, hg1, t1, t2, fl, fx, fy, List.getElem?_set_ne hne] <;> rfl) (by simp only [go_sem] <;> rfl) (by simp only [go_sem] <;> rfl) ?_
            refine OpenK.op (by simp only [go_sem, hg1, t1, t2, fl, fx, fy, List.getElem?_set_ne hne] <;> rfl) (by simp only [go_sem] <;> rfl) (by simp only [go_sem] <;> rfl) ?_
            refine OpenK.op (by simp only [go_sem, hg1, t1, t2, fl, fx, fy, List.getElem?_set_ne hne] <;> rfl) (by simp only [go_sem] <;> rfl) (by simp only [go_sem] <;> rfl) ?_
            refine OpenK.op (by simp only [go_sem, hg1, t1, t2, fl, fx, fy, List.getElem?_set_ne hne]; (try simp (disch := omega) only [IntWalk.i64_in, IntWalk.u64_in, if_neg, if_pos])<;> rfl) (by simp only [go_sem] <;> rfl) (by simp only [go_sem] <;> rfl) ?_
            refine OpenK.op (by simp only [go_sem, hg1, t1, t2, fl, fx, fy, List.getElem?_set_ne hne] <;> rfl) (by simp only [go_sem] <;> rfl) (by simp only [go_sem] <;> rfl) ?_
            refine OpenK.op (by simp only [go_sem, hg1, t1, t2, fl, fx, fy, List.getElem?_set_ne hne] <;> rfl) (by simp only [go_sem] <;> rfl) (by simp only [go_sem] <;> rfl) ?_
            refine OpenK.op (by simp only [go_sem, hg1, t1, t2, fl, fx, fy, List.getElem?_set_ne hne]; (try simp (disch := omega) only [IntWalk.i64_in, IntWalk.u64_in, if_neg, if_pos])<;> rfl) (by simp only [go_sem] <;> rfl) (by simp only [go_sem] <;> rfl) ?_
            refine OpenK.op (by simp only [go_sem, hg1, t1, t2, fl, fx, fy, List.getElem?_set_ne hne]; (try simp (disch := omega) only [if_pos]); (try simp only [go_sem, hg1, t1, t2, fl, fx, fy, List.getElem?_set_ne hne])<;> rfl) (by simp only [go_sem] <;> rfl) (by simp only [go_sem] <;> rfl) ?_
            refine OpenK.op (by simp only [go_sem, hg1, t1, t2, fl, fx, fy, List.getElem?_set_ne hne] <;> rfl) (by simp only [go_sem] <;> rfl) (by simp only [go_sem] <;> rfl) ?_
            refine OpenK.op (by simp only [go_sem, hg1, t1, t2, fl, fx, fy, List.getElem?_set_ne hne] <;> rfl) (by simp only [go_sem] <;> rfl) (by simp only [go_sem] <;> rfl) ?_
            refine OpenK.op (by simp only [go_sem, hg1, t1, t2, fl, fx, fy, List.getElem?_set_ne hne] <;> rfl) (by simp only [go_sem] <;> rfl) (by simp only [go_sem] <;> rfl) ?_
            refine OpenK.op (by simp only [go_sem, hg1, t1, t2, fl, fx, fy, List.getElem?_set_ne hne]; (try simp (disch := omega) only [if_pos]); (try simp only [go_sem, hg1, t1, t2, fl, fx, fy, List.getElem?_set_ne hne])<;> rfl) (by simp only [go_sem] <;> rfl) (by simp only [go_sem] <;> rfl) ?_
            refine OpenK.op (by simp only [go_sem, hg1, t1, t2, fl, fx, fy, List.getElem?_set_ne hne] <;> rfl) (by simp only [go_sem] <;> rfl) (by simp only [go_sem] <;> rfl) ?_
            refine OpenK.op (by simp only [go_sem, hg1, t1, t2, fl, fx, fy, List.getElem?_set_ne hne]; (try simp (disch := omega) only [if_pos]); (try simp only [go_sem, hg1, t1, t2, fl, fx, fy, List.getElem?_set_ne hne])<;> rfl) (by simp only [go_sem] <;> rfl) (by simp only [go_sem] <;> rfl) ?_
            refine OpenK.op (by simp only [go_sem, hg1, t1, t2, fl, fx, fy, List.getElem?_set_ne hne] <;> rfl) (by simp only [go_sem] <;> rfl) (by simp only [go_sem] <;> rfl) ?_
            refine OpenK.op (by simp only [go_sem, hg1, t1, t2, fl, fx, fy, List.getElem?_set_ne hne]; (try simp (disch := omega) only [if_pos]); (try simp only [go_sem, hg1, t1, t2, fl, fx, fy, List.getElem?_set_ne hne])<;> rfl) (by simp only [go_sem] <;> rfl) (by simp only [go_sem] <;> rfl) ?_
            refine OpenK.op (by simp only [go_sem, hg1, t1, t2, fl, fx, fy, List.getElem?_set_ne hne] <;> rfl) (by simp only [go_sem] <;> rfl) (by simp only [go_sem] <;> rfl) ?_
            refine OpenK.nil (OpenE.finT (by kernel_rfl) (by kernel_rfl) (by kernel_rfl) ?_)
            refine BlkK.nrm ?_
            refine Exec.reg1 ?_
            refine Run.op (by simp only [go_sem, hg1, t1, t2, fl, fx, fy, List.getElem?_set_ne hne] <;> rfl) (by simp only [go_sem] <;> rfl) ?_
            refine Run.op (by simp only [go_sem, hg1, t1, t2, fl, fx, fy, List.getElem?_set_ne hne]; (try simp (disch := omega) only [IntWalk.i64_in, IntWalk.u64_in, if_neg, if_pos])<;> rfl) (by simp only [go_sem] <;> rfl) ?_
            refine Run.op (by simp only [go_sem, hg1, t1, t2, fl, fx, fy, List.getElem?_set_ne hne] <;> rfl) (by simp only [go_sem] <;> rfl) ?_
            refine Run.nil ?_
            refine ForK.nxt ?_ ?_ ?_
            · omega
            · exact Ghost.kp [0, 1, 2, 3, 8, 9] [900] (by simp only [go_sem, hg1, t1, t2, fl, fx, fy, List.getElem?_set_ne hne]; first | ((repeat' (first | with_reducible_and_instances rfl | refine st_eq ?_ ?_ ?_ | refine ret_eq ?_ | refine tup_eq ?_ | refine tm_eq ?_ ?_ | refine arr_eq ?_ | refine cells_eq ?_ | refine val_eq ?_ | refine ls_eq ?_ ?_ | refine own_eq ?_ ?_ | refine sl_eq ?_ | refine b_eq ?_ | (refine i_eq ?_; omega))); (rw [fset, List.map_set, List.map_set]; rfl)) | rfl)
            · exact hXn
          · skip
            have hl : lt x y = false := by rw [← hlt]; exact hb34
            have hsc : scanE lt x (isortE lt (s.take (k + 1))) (k + 1) = k + 1 - j := by rw [Xj, hcj, scanE_no hy hl]
            have en : p ++ (isortE lt (s.take (k + 1 + 1)) ++ s.drop (k + 1 + 1)) ++ q = Lt p (isortE lt (s.take (k + 1))) (s.drop (k + 2) ++ q) x (k + 1 - j) := by
              have ht2 : s.take (k + 1 + 1) = s.take (k + 1) ++ [x] := by rw [List.take_succ, hx]; rfl
              rw [← hsc, ht2, isortE_snoc]
              have := Lt_ins (lt := lt) (p := p) (t := isortE lt (s.take (k + 1))) (r := s.drop (k + 2) ++ q) (x := x)
              rw [htl] at this
              rw [this]; simp
            refine Exec.exitS ?_
            refine ForK.ext ?_
            refine Blk1K.hit ?_
            refine BlkK.nrm ?_
            refine Exec.reg1 ?_
            refine Run.op (by simp only [go_sem, hg1, t1, t2, fl, fx, fy, en] <;> rfl) (by simp only [go_sem] <;> rfl) ?_
            refine Run.op (by simp only [go_sem, hg1, t1, t2, fl, fx, fy, en]; (try simp (disch := omega) only [IntWalk.i64_in, IntWalk.u64_in, if_neg, if_pos])<;> rfl) (by simp only [go_sem] <;> rfl) ?_
            refine Run.op (by simp only [go_sem, hg1, t1, t2, fl, fx, fy, en] <;> rfl) (by simp only [go_sem] <;> rfl) ?_
            refine Run.nil ?_
            refine ForK.nxt ?_ ?_ ?_
            · omega
            · exact Ghost.kp [0, 1, 2, 3, 8] [900] (by simp only [go_sem, hg1, t1, t2, fl, fx, fy, en]; first | ((repeat' (first | with_reducible_and_instances rfl | refine st_eq ?_ ?_ ?_ | refine ret_eq ?_ | refine tup_eq ?_ | refine tm_eq ?_ ?_ | refine arr_eq ?_ | refine cells_eq ?_ | refine val_eq ?_ | refine ls_eq ?_ ?_ | refine own_eq ?_ ?_ | refine sl_eq ?_ | refine b_eq ?_ | (refine i_eq ?_; omega))); done) | rfl)
            · trivial
        · skip
          have hg1 : decide ((p.length : Int) + 1 + k - j > p.length) = false := by simp; omega
          refine Exec.opk 19 ?_
          refine OpenK.op (by simp only [go_sem, hg1] <;> rfl) (by simp only [go_sem] <;> rfl) (by simp only [go_sem] <;> rfl) ?_
          refine OpenK.op (by simp only [go_sem, hg1] <;> rfl) (by simp only [go_sem] <;> rfl) (by simp only [go_sem] <;> rfl) ?_
          refine OpenK.op (by simp only [go_sem, hg1] <;> rfl) (by simp only [go_sem] <;> rfl) (by simp only [go_sem] <;> rfl) ?_
          refine OpenK.op (by simp only [go_sem, hg1] <;> rfl) (by simp only [go_sem] <;> rfl) (by simp only [go_sem] <;> rfl) ?_
          refine OpenK.skp (by simp only [go_sem] <;> rfl) (by simp only [go_sem] <;> rfl) (by simp only [go_sem] <;> rfl) ?_
          refine OpenK.skp (by simp only [go_sem] <;> rfl) (by simp only [go_sem] <;> rfl) (by simp only [go_sem] <;> rfl) ?_
          refine OpenK.skp (by simp only [go_sem] <;> rfl) (by simp only [go_sem] <;> rfl) (by simp only [go_sem] <;> rfl) ?_
          refine OpenK.skp (by simp only [go_sem] <;> rfl) (by simp only [go_sem] <;> rfl) (by simp only [go_sem] <;> rfl) ?_
          refine OpenK.skp (by simp only [go_sem] <;> rfl) (by simp only [go_sem] <;> rfl) (by simp only [go_sem] <;> rfl) ?_
          refine OpenK.skp (by simp only [go_sem] <;> rfl) (by simp only [go_sem] <;> rfl) (by simp only [go_sem] <;> rfl) ?_
          refine OpenK.skp (by simp only [go_sem] <;> rfl) (by simp only [go_sem] <;> rfl) (by simp only [go_sem] <;> rfl) ?_
          refine OpenK.skp (by simp only [go_sem] <;> rfl) (by simp only [go_sem] <;> rfl) (by simp only [go_sem] <;> rfl) ?_
          refine OpenK.skp (by simp only [go_sem] <;> rfl) (by simp only [go_sem] <;> rfl) (by simp only [go_sem] <;> rfl) ?_
          refine OpenK.skp (by simp only [go_sem] <;> rfl) (by simp only [go_sem] <;> rfl) (by simp only [go_sem] <;> rfl) ?_
          refine OpenK.skp (by simp only [go_sem] <;> rfl) (by simp only [go_sem] <;> rfl) (by simp only [go_sem] <;> rfl) ?_
          refine OpenK.skp (by simp only [go_sem] <;> rfl) (by simp only [go_sem] <;> rfl) (by simp only [go_sem] <;> rfl) ?_
          refine OpenK.op (by simp only [go_sem, hg1] <;> rfl) (by simp only [go_sem] <;> rfl) (by simp only [go_sem] <;> rfl) ?_
          refine OpenK.nil (OpenE.finT (by kernel_rfl) (by kernel_rfl) (by kernel_rfl) ?_)
          refine Exec.cndS (by simp only [go_sem, hg1] <;> rfl) (fun hb34 => ?_) (fun hb34 => ?_)
          · exact absurd hb34 (by simp)
          · skip
            have hsc : scanE lt x (isortE lt (s.take (k + 1))) (k + 1) = k + 1 - j := by rw [Xj, show k + 1 - j = 0 by omega]; rfl
            have en : p ++ (isortE lt (s.take (k + 1 + 1)) ++ s.drop (k + 1 + 1)) ++ q = Lt p (isortE lt (s.take (k + 1))) (s.drop (k + 2) ++ q) x (k + 1 - j) := by
              have ht2 : s.take (k + 1 + 1) = s.take (k + 1) ++ [x] := by rw [List.take_succ, hx]; rfl
              rw [← hsc, ht2, isortE_snoc]
              have := Lt_ins (lt := lt) (p := p) (t := isortE lt (s.take (k + 1))) (r := s.drop (k + 2) ++ q) (x := x)
              rw [htl] at this
              rw [this]; simp
            refine Exec.exitS ?_
            refine ForK.ext ?_
            refine Blk1K.hit ?_
            refine BlkK.nrm ?_
            refine Exec.reg1 ?_
            refine Run.op (by simp only [go_sem, hg1, en] <;> rfl) (by simp only [go_sem] <;> rfl) ?_
            refine Run.op (by simp only [go_sem, hg1, en]; (try simp (disch := omega) only [IntWalk.i64_in, IntWalk.u64_in, if_neg, if_pos])<;> rfl) (by simp only [go_sem] <;> rfl) ?_
            refine Run.op (by simp only [go_sem, hg1, en] <;> rfl) (by simp only [go_sem] <;> rfl) ?_
            refine Run.nil ?_
            refine ForK.nxt ?_ ?_ ?_
            · omega
            · exact Ghost.kp [0, 1, 2, 3, 8] [900] (by simp only [go_sem, hg1, en]; first | ((repeat' (first | with_reducible_and_instances rfl | refine st_eq ?_ ?_ ?_ | refine ret_eq ?_ | refine tup_eq ?_ | refine tm_eq ?_ ?_ | refine arr_eq ?_ | refine cells_eq ?_ | refine val_eq ?_ | refine ls_eq ?_ ?_ | refine own_eq ?_ ?_ | refine sl_eq ?_ | refine b_eq ?_ | (refine i_eq ?_; omega))); done) | rfl)
            · trivial
    · skip
      have hk1 : s.length ≤ k + 1 := by have := of_decide_eq_false hb14; omega
      have e : p ++ (isortE lt (s.take (k + 1)) ++ s.drop (k + 1)) ++ q = p ++ isortE lt s ++ q := by rw [List.take_of_length_le hk1, List.drop_eq_nil_of_le hk1, List.append_nil]
      refine Exec.exitS ?_
      refine ForK.ext ?_
      refine Blk1K.hit ?_
      exact Ends.fin0 [900] (rs := []) rfl (by simp only [go_sem, e] <;> rfl) (by simp only [go_sem, e] <;> first | rfl | ((repeat' (first | with_reducible_and_instances rfl | refine st_eq ?_ ?_ ?_ | refine ret_eq ?_ | refine tup_eq ?_ | refine tm_eq ?_ ?_ | refine arr_eq ?_ | refine cells_eq ?_ | refine val_eq ?_ | refine ls_eq ?_ ?_ | refine own_eq ?_ ?_ | refine sl_eq ?_ | refine b_eq ?_ | (refine i_eq ?_; omega))); done))

end Go.Mw

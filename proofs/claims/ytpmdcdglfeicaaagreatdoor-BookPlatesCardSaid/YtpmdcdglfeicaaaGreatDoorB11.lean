/- Contracts of the statements' own functions. -/
import Derived.Test.YtpmdcdglfeicaaaGreatDoorPD
import Derived.Test.YtpmdcdglfeicaaaGreatDoorB10
import Derived.Test.YtpmdcdglfeicaaaGreatDoorB6
import Derived.Test.YtpmdcdglfeicaaaGreatDoorB7
import Derived.Test.YtpmdcdglfeicaaaGreatDoorRows
import Derived.LaidMore
import Derived.Lay
import Derived.ChangeMaps5
set_option linter.unusedSimpArgs false
set_option linter.unusedVariables false
set_option linter.unusedSectionVars false
set_option linter.deprecated false
namespace Go.Mw
open Go.Proofs
open Go.Bk
attribute [local go_sem] decide_true beq_self_eq_true bne_self_eq_false
set_option maxRecDepth 20000 in
set_option maxHeartbeats 4000000 in
/-- meterworks/meterworksref14.SamePlates -/
theorem c_SamePlates (a b : List Pl) (ha : a.length ≤ 1000000) (hb : b.length ≤ 1000000) : Contract Tryz.prog 29 [.leaf (.d (plsD a)), .leaf (.d (plsD b))] (.bool (decide (a = b))) [] := by
  refine con_of follows_mixed Tryz.func29 rfl (by simp only [List.length_cons, List.length_nil, Tryz.ntmps29]; omega) V221 rfl ?_
  refine Exec.reg ?_
  refine Run.o ?_
  refine Run.nil ?_
  refine Exec.assocS ?_
  refine Exec.reg ?_
  iterate 5 (refine Run.o ?_)
  refine Run.nil ?_
  refine Exec.cndS V215 (fun hb10 => ?_) (fun hb10 => ?_)
  · skip
    have hne : ¬ a = b := fun h => by subst h; simp at hb10
    have hr : decide (a = b) = false := decide_eq_false hne
    refine Exec.assocS ?_
    refine Exec.reg ?_
    refine Run.o1 V208 ?_
    refine Run.nil ?_
    refine Exec.retS ?_
    exact Ends.fin [] (rs := [.tmp 4]) rfl V208 (by simp only [go_sem, hr] <;> first | rfl | exact eqz)
  · skip
    have hll : a.length = b.length := by simp at hb10; omega
    refine Exec.skipS ?_
    refine Exec.assocS ?_
    refine Exec.reg ?_
    refine Run.o ?_
    refine Run.nil ?_
    refine Exec.blk ?_
    refine Exec.forA [0, 1, 5] [] (a.length) (fun k => [.slot 5 (.int k)]) (fun k => a.take k = b.take k) (fun k => by simp only [go_sem] <;> rfl) V162 ?_ (fun k hk hX => ?_)
    · rfl
    · skip
      refine Exec.assocS ?_
      refine Exec.reg ?_
      iterate 4 (refine Run.o ?_)
      refine Run.nil ?_
      refine Exec.cndS V215 (fun hb14 => ?_) (fun hb14 => ?_)
      · skip
        have hlt := lt_of_dec hb14
        obtain ⟨x, hx⟩ := elem_of hb14
        obtain ⟨y, hy⟩ : ∃ y, b[k]? = some y := ⟨_, List.getElem?_eq_getElem (by omega)⟩
        refine Exec.skipS ?_
        refine Exec.blk ?_
        refine Exec.opk 11 ?_
        iterate 2 (refine OpenK.o1 V196 ?_)
        refine OpenK.o1 (by simp only [go_sem, hx, hy]; (try simp (disch := omega) only [if_pos]); (try simp only [go_sem, hx, hy])<;> rfl) ?_
        iterate 3 (refine OpenK.o1 V196 ?_)
        refine OpenK.o1 (by simp only [go_sem, hx, hy]; (try simp (disch := omega) only [if_pos]); (try simp only [go_sem, hx, hy])<;> rfl) ?_
        iterate 2 (refine OpenK.o1 V196 ?_)
        refine OpenK.nil (OpenE.fin V219 V219 ?_)
        refine Exec.cnd V196 (fun hb25 => ?_) (fun hb25 => ?_)
        · skip
          have hne : ¬ a = b := fun h => by subst h; rw [hx] at hy; cases hy; simp at hb25
          have hr : decide (a = b) = false := decide_eq_false hne
          refine Exec.reg ?_
          refine Run.o1 (by simp only [go_sem, hx, hy, hr] <;> rfl) ?_
          refine Run.nil ?_
          refine BlkK.ret ?_
          refine ForK.ret ?_
          refine BlkK.ret ?_
          exact Ends.fin [] (rs := [.tmp 4]) rfl (by simp only [go_sem, hx, hy, hr] <;> rfl) (by simp only [go_sem, hx, hy, hr] <;> first | rfl | exact eqz)
        · skip
          have hxy : x = y := by
            obtain ⟨x1, x2, x3⟩ := x
            obtain ⟨y1, y2, y3⟩ := y
            simp at hb25
            obtain ⟨e1, e2, e3⟩ := hb25
            subst e1 e2 e3; rfl
          subst hxy
          refine BlkK.nrm ?_
          refine Exec.reg1 ?_
          refine Run.o1 V196 ?_
          refine Run.o1 (by simp only [go_sem, hx, hy]; (try simp (disch := omega) only [IntWalk.i64_in, IntWalk.u64_in, IntWalk.i32_in, IntWalk.u8_in, if_neg, if_pos])<;> rfl) ?_
          refine Run.o1 V196 ?_
          refine Run.nil ?_
          refine ForK.nxt ?_ ?_ ?_
          · omega
          · exact Ghost.kp [0, 1, 5] [] (by simp only [go_sem, hx, hy] <;> first | exact eqz | rfl)
          · exact same_step hx hy hX
      · skip
        have heq := same_end hll (ge_of_dec hb14) hX
        have hr : decide (a = b) = true := decide_eq_true heq
        refine Exec.exitS ?_
        refine ForK.ext ?_
        refine BlkK.hit ?_
        refine Exec.reg ?_
        refine Run.o1 V208 ?_
        refine Run.nil ?_
        exact Ends.fin [] (rs := [.tmp 4]) rfl V208 (by simp only [go_sem, hr] <;> first | rfl | exact eqz)

set_option maxRecDepth 20000 in
set_option maxHeartbeats 8000000 in
/-- meterworks/meterworkslaw14.long -/
theorem c_long (s : List Sh) (p : List Pl) (g : List Pg) (hs : s.length ≤ 9223372036854775807) (hp : p.length ≤ 9223372036854775807) (hg : g.length ≤ 9223372036854775807) : Contract Tryz.prog 23 [.leaf (.d (shsD s)), .leaf (.d (plsD p)), .leaf (.d (pgsD g))] (.bool (longB s p g)) [] := by
  refine con_of follows_mixed Tryz.func23 rfl (by simp only [List.length_cons, List.length_nil, Tryz.ntmps23]; omega) V221 rfl ?_
  refine Exec.reg ?_
  refine Run.o ?_
  refine Run.nil ?_
  refine Exec.assocS ?_
  refine Exec.reg ?_
  iterate 3 (refine Run.o ?_)
  refine Run.nil ?_
  refine Exec.blk ?_
  refine Exec.forA [0, 1, 2, 11, 12, 13] [] (s.length) (fun k => [.slot 13 (.int k)]) (fun k => (s.take k).any (fun x => decide (10 < x.tries.length)) = false) (fun k => by simp only [go_sem] <;> rfl) V162 ?_ (fun k hk hX => ?_)
  · rfl
  · skip
    refine Exec.reg ?_
    refine Run.o ?_
    refine Run.nil ?_
    refine Exec.cndS V215 (fun hb14 => ?_) (fun hb14 => ?_)
    · skip
      have hlt := lt_of_dec hb14
      obtain ⟨x, hx⟩ := elem_of hb14
      refine Exec.skipS ?_
      refine Exec.blk ?_
      refine Exec.reg ?_
      refine Run.o1 (by simp only [go_sem, hx]; (try simp (disch := omega) only [if_pos]); (try simp only [go_sem, hx])<;> rfl) ?_
      iterate 3 (refine Run.o1 V209 ?_)
      refine Run.nil ?_
      refine Exec.reg ?_
      iterate 4 (refine Run.o1 V209 ?_)
      refine Run.nil ?_
      refine Exec.cnd V209 (fun hb20 => ?_) (fun hb20 => ?_)
      · skip
        have hl : 10 < x.tries.length := by have := of_decide_eq_true hb20; omega
        have hA : s.any (fun x => decide (10 < x.tries.length)) = true := any_at hx (decide_eq_true hl)
        have hr : longB s p g = true := by unfold longB; rw [hA]; rfl
        refine Exec.reg ?_
        refine Run.o1 (by simp only [go_sem, hx, hr] <;> rfl) ?_
        refine Run.nil ?_
        refine BlkK.ret ?_
        refine ForK.ret ?_
        refine BlkK.ret ?_
        exact Ends.fin [] (rs := [.tmp 6]) rfl (by simp only [go_sem, hx, hr] <;> rfl) (by simp only [go_sem, hx, hr] <;> first | rfl | exact eqz)
      · skip
        have hl : ¬ 10 < x.tries.length := by have := of_decide_eq_false hb20; omega
        refine BlkK.nrm ?_
        refine Exec.reg1 ?_
        refine Run.o1 (by simp only [go_sem, hx]; (try simp (disch := omega) only [IntWalk.i64_in, IntWalk.u64_in, IntWalk.i32_in, IntWalk.u8_in, if_neg, if_pos])<;> rfl) ?_
        refine Run.o1 V209 ?_
        refine Run.nil ?_
        refine ForK.nxt ?_ ?_ ?_
        · omega
        · exact Ghost.kp [0, 1, 2, 11, 12, 13] [] (by simp only [go_sem, hx] <;> first | exact eqz | rfl)
        · exact ten_step hx hX (decide_eq_false hl)
    · skip
      have hA : s.any (fun x => decide (10 < x.tries.length)) = false := by rw [List.take_of_length_le (ge_of_dec hb14)] at hX; exact hX
      refine Exec.exitS ?_
      refine ForK.ext ?_
      refine BlkK.hit ?_
      refine Exec.assocS ?_
      refine Exec.reg ?_
      iterate 3 (refine Run.o ?_)
      refine Run.nil ?_
      refine Exec.blk ?_
      refine Exec.forA [0, 1, 2, 22, 23, 24] [] (g.length) (fun j => [.slot 24 (.int j)]) (fun j => (g.take j).any (fun x => decide (24 < x.reads.length)) = false) (fun j => by simp only [go_sem] <;> rfl) V162 ?_ (fun j hj Xj => ?_)
      · rfl
      · skip
        refine Exec.reg ?_
        refine Run.o ?_
        refine Run.nil ?_
        refine Exec.cndS V215 (fun hb25 => ?_) (fun hb25 => ?_)
        · skip
          have hlt2 := lt_of_dec hb25
          obtain ⟨y, hy⟩ := elem_of hb25
          refine Exec.skipS ?_
          refine Exec.blk ?_
          refine Exec.reg ?_
          refine Run.o1 (by simp only [go_sem, hy]; (try simp (disch := omega) only [if_pos]); (try simp only [go_sem, hy])<;> rfl) ?_
          iterate 3 (refine Run.o1 (by simp only [go_sem, hy] <;> rfl) ?_)
          refine Run.nil ?_
          refine Exec.reg ?_
          iterate 4 (refine Run.o1 (by simp only [go_sem, hy] <;> rfl) ?_)
          refine Run.nil ?_
          refine Exec.cnd (by simp only [go_sem, hy] <;> rfl) (fun hb31 => ?_) (fun hb31 => ?_)
          · skip
            have hl2 : 24 < y.reads.length := by have := of_decide_eq_true hb31; omega
            have hB : g.any (fun x => decide (24 < x.reads.length)) = true := any_at hy (decide_eq_true hl2)
            have hr : longB s p g = true := by unfold longB; rw [hA, hB]; rfl
            refine Exec.reg ?_
            refine Run.o1 (by simp only [go_sem, hy, hr] <;> rfl) ?_
            refine Run.nil ?_
            refine BlkK.ret ?_
            refine ForK.ret ?_
            refine BlkK.ret ?_
            exact Ends.fin [] (rs := [.tmp 6]) rfl (by simp only [go_sem, hy, hr] <;> rfl) (by simp only [go_sem, hy, hr] <;> first | rfl | exact eqz)
          · skip
            have hl2 : ¬ 24 < y.reads.length := by have := of_decide_eq_false hb31; omega
            refine BlkK.nrm ?_
            refine Exec.reg1 ?_
            refine Run.o1 (by simp only [go_sem, hy]; (try simp (disch := omega) only [IntWalk.i64_in, IntWalk.u64_in, IntWalk.i32_in, IntWalk.u8_in, if_neg, if_pos])<;> rfl) ?_
            refine Run.o1 (by simp only [go_sem, hy] <;> rfl) ?_
            refine Run.nil ?_
            refine ForK.nxt ?_ ?_ ?_
            · omega
            · exact Ghost.kp [0, 1, 2, 22, 23, 24] [] (by simp only [go_sem, hy] <;> first | exact eqz | rfl)
            · exact ten_step hy Xj (decide_eq_false hl2)
        · skip
          have hB : g.any (fun x => decide (24 < x.reads.length)) = false := by rw [List.take_of_length_le (ge_of_dec hb25)] at Xj; exact Xj
          refine Exec.exitS ?_
          refine ForK.ext ?_
          refine BlkK.hit ?_
          by_cases g1 : 18 < s.length
          · skip
            have q1 : decide ((s.length : Int) > 18) = true := by first | exact decide_eq_true (by omega) | exact decide_eq_false (by omega)
            have hr : longB s p g = true := by unfold longB; rw [hA, hB, decide_eq_true g1]; rfl
            refine Exec.reg ?_
            iterate 4 (refine Run.o1 (by simp only [go_sem, q1, hr] <;> rfl) ?_)
            iterate 3 (refine Run.s ?_)
            iterate 2 (refine Run.o1 (by simp only [go_sem, q1, hr] <;> rfl) ?_)
            iterate 3 (refine Run.s ?_)
            iterate 2 (refine Run.o1 (by simp only [go_sem, q1, hr] <;> rfl) ?_)
            refine Run.nil ?_
            exact Ends.fin [] (rs := [.tmp 6]) rfl (by simp only [go_sem, q1, hr] <;> rfl) (by simp only [go_sem, q1, hr] <;> first | rfl | exact eqz)
          · skip
            have q1 : decide ((s.length : Int) > 18) = false := by first | exact decide_eq_true (by omega) | exact decide_eq_false (by omega)
            by_cases g2 : 70 < p.length
            · skip
              have q2 : decide ((p.length : Int) > 70) = true := by first | exact decide_eq_true (by omega) | exact decide_eq_false (by omega)
              have hr : longB s p g = true := by unfold longB; rw [hA, hB, decide_eq_false g1, decide_eq_true g2]; rfl
              refine Exec.reg ?_
              iterate 4 (refine Run.o1 V181 ?_)
              iterate 3 (refine Run.y1 V181 ?_)
              iterate 2 (refine Run.o1 V181 ?_)
              iterate 3 (refine Run.s ?_)
              iterate 2 (refine Run.o1 V181 ?_)
              refine Run.nil ?_
              exact Ends.fin [] (rs := [.tmp 6]) rfl V181 (by simp only [go_sem, q1, q2, hr] <;> first | rfl | exact eqz)
            · skip
              have q2 : decide ((p.length : Int) > 70) = false := by first | exact decide_eq_true (by omega) | exact decide_eq_false (by omega)
              have q3 : decide ((g.length : Int) > 40) = decide (40 < g.length) := by by_cases h : 40 < g.length <;> simp [h] <;> omega
              have hr : longB s p g = decide (40 < g.length) := by unfold longB; rw [hA, hB, decide_eq_false g1, decide_eq_false g2]; rfl
              refine Exec.reg ?_
              iterate 4 (refine Run.o1 V167 ?_)
              iterate 3 (refine Run.y1 V167 ?_)
              iterate 2 (refine Run.o1 V167 ?_)
              iterate 3 (refine Run.y1 V167 ?_)
              iterate 2 (refine Run.o1 V167 ?_)
              refine Run.nil ?_
              exact Ends.fin [] (rs := [.tmp 6]) rfl V167 (by simp only [go_sem, q1, q2, q3, hr] <;> first | rfl | exact eqz)

set_option maxRecDepth 20000 in
set_option maxHeartbeats 8000000 in
/-- meterworks/meterworkslaw14.alive -/
theorem c_alive : Contract Tryz.prog 24 [] (.bool true) [] := by
  have k1 := c_WriteSheets exS (by decide) (by decide)
  rw [exS_w, exS_e] at k1
  have k2 := c_WritePlates exP (by decide)
  rw [exP_w, exP_e] at k2
  have k3 := c_WritePages exG (by decide) (by decide)
  rw [exG_w, exG_e] at k3
  have k4 := c_ReadPlates exPB (by decide)
  rw [exP_r] at k4
  have k5 := c_SamePlates exP exP (by decide) (by decide)
  rw [decide_eq_true (show exP = exP from rfl)] at k5
  have z0 : ((0 : Int) == 0) = true := rfl
  refine con_of follows_mixed Tryz.func24 rfl (by simp only [List.length_cons, List.length_nil, Tryz.ntmps24]; omega) V221 rfl ?_
  refine Exec.reg ?_
  refine Run.o1 V210 ?_
  refine Run.nil ?_
  refine Exec.reg ?_
  refine Run.c1 (c_exS) V210 V210 ?_
  refine Run.c1 (k1) V210 V210 ?_
  iterate 5 (refine Run.o1 V210 ?_)
  refine Run.nil ?_
  refine Exec.reg ?_
  refine Run.c1 (c_exP) V210 V210 ?_
  refine Run.c1 (k2) V210 V210 ?_
  iterate 5 (refine Run.o1 V210 ?_)
  refine Run.nil ?_
  refine Exec.reg ?_
  refine Run.c1 (c_exG) V210 V210 ?_
  refine Run.c1 (k3) V210 V210 ?_
  iterate 5 (refine Run.o1 V210 ?_)
  refine Run.nil ?_
  refine Exec.reg ?_
  refine Run.o1 V210 ?_
  refine Run.c1 (k4) V210 V210 ?_
  iterate 5 (refine Run.o1 V210 ?_)
  refine Run.nil ?_
  refine Exec.reg ?_
  iterate 3 (refine Run.o1 V210 ?_)
  iterate 2 (refine Run.y1 V210 ?_)
  iterate 2 (refine Run.o1 V210 ?_)
  refine Run.y1 V210 ?_
  refine Run.val (semV_btos Tryz.underlying53 Tryz.underlying5 Tryz.underlying9 (l := exPB) (.inl V215)) V215 V215 ?_
  refine Run.y1 V210 ?_
  iterate 2 (refine Run.o1 V210 ?_)
  iterate 2 (refine Run.y1 V210 ?_)
  iterate 2 (refine Run.o1 V210 ?_)
  iterate 2 (refine Run.y1 V210 ?_)
  iterate 2 (refine Run.o1 V210 ?_)
  iterate 2 (refine Run.y1 V210 ?_)
  iterate 2 (refine Run.o1 V210 ?_)
  refine Run.y1 V210 ?_
  refine Run.calw V215 (c_exP) V217 V210 V210 (by exact trivial) (fr0) V210 ?_
  refine Run.calw V215 (k5) V217 V210 V210 V14 (fr0) V210 ?_
  iterate 2 (refine Run.o1 V210 ?_)
  iterate 2 (refine Run.y1 V210 ?_)
  iterate 2 (refine Run.o1 V210 ?_)
  refine Run.nil ?_
  exact Ends.fin [] (rs := [.tmp 0]) rfl V210 (by simp only [go_sem, z0] <;> first | rfl | exact eqz)

end Go.Mw
namespace Go.Mw
open Go.Proofs Go.RowKit Go.ChangeShapes Go.WideShapes Go.Bk
set_option maxRecDepth 20000

theorem rows_map {α : Type} {f : α → List D} : ∀ {rows : List (List D)}, (∀ r ∈ rows, ∃ x, r = f x) → ∃ l : List α, rows = l.map f
  | [], _ => ⟨[], rfl⟩
  | r :: rows, h => by
    obtain ⟨x, rfl⟩ := h r (by simp)
    obtain ⟨l, rfl⟩ := rows_map (rows := rows) fun q hq => h q (List.mem_cons_of_mem _ hq)
    exact ⟨x :: l, rfl⟩
section
variable {H : Type} {enc : TypeId × Value → H} {W : World} {v : Value} {d : DataW H} {ps : List MemPlace}
abbrev KReads (enc : TypeId × Value → H) (W : World) (t : TypeId) (Q : List D → Prop) : Prop := Reads enc Tryz.prog W 0 (fun _ => true) true t Q
theorem r_plate : KReads enc W 70 (fun ds => ∃ x : Pl, ds = encPl x) := reads_flat (ks := [.int .i64, .int .i64, .int .i64]) V221 fun r h => by
  obtain ⟨a, r, rfl, ⟨n, hn, _⟩, h⟩ := all2_inv h
  obtain ⟨b, r, rfl, ⟨m, hm, _⟩, h⟩ := all2_inv h
  obtain ⟨c, r, rfl, ⟨k, hk, _⟩, h⟩ := all2_inv h
  have := all2_nil h
  subst hn hm hk this
  exact ⟨⟨n, m, k⟩, rfl⟩
theorem r_sl {t e : TypeId} {k : Nat} {α : Type} {f : α → List D} (ht : Tryz.prog.underlying t = some (.slice e)) (hr : KReads enc W e (fun ds => ∃ x : α, ds = f x)) (hc : Tryz.prog.cellsOf e = k) (h0 : 0 < k) : KReads enc W t (fun ds => ∃ l : List α, ds = [D.sl k (l.map f)]) := fun fuel cs x h => by
  obtain ⟨ds, ⟨rows, rfl, hr⟩, ha⟩ := reads_slice ht hr hc h0 fuel cs x h
  obtain ⟨l, rfl⟩ := rows_map (f := f) (rows := rows) hr
  exact ⟨_, ⟨l, rfl⟩, ha⟩
/-- Bytes, as an argument. -/
theorem r_bytes : KReads enc W 53 (fun ds => ∃ l : Bs, ds = [bysD l]) := fun fuel cs x h => by
  have hr : KReads enc W 5 (fun ds => ∃ c : UInt8, ds = [.raw (.int .u8 c.toNat)]) := reads_flat (ks := [.int .u8]) V221 fun r h => by
    obtain ⟨a, r, rfl, ⟨n, hn, hw⟩, h⟩ := all2_inv h
    have := all2_nil h
    subst hn this
    have h2 : 0 ≤ n ∧ n ≤ 255 := by
      simp only [Lit.wf, Bool.and_eq_true, decide_eq_true_eq] at hw
      have e1 : IntKind.u8.min = 0 := by decide
      have e2 : IntKind.u8.max = 255 := by decide
      omega
    refine ⟨UInt8.ofNat n.toNat, ?_⟩
    have : ((UInt8.ofNat n.toNat).toNat : Int) = n := by rw [UInt8.toNat_ofNat']; omega
    show [D.raw (.int .u8 n)] = [D.raw (.int .u8 ((UInt8.ofNat n.toNat).toNat : Int))]
    rw [this]
  obtain ⟨ds, ⟨l, rfl⟩, ha⟩ := r_sl (k := 1) (f := fun c : UInt8 => [D.raw (.int .u8 c.toNat)]) V221 hr V221 (by decide) fuel cs x h
  exact ⟨_, ⟨l, rfl⟩, ha⟩
theorem one_read {t : TypeId} {Q : List D → Prop} (hr : KReads enc W t Q) {b0 : Nat} {r : Reach} {e : TypeId} (ht : Tryz.prog.underlying t = some (.slice e)) (hv : Value.okWide Tryz.prog W r b0 t v) (h : DataW.Trod enc Tryz.prog W 0 (fun _ => true) true t v d ps) :
    ∃ x : D, Q [x] ∧ RepV (fun b _ => b < W.heap.size) noVal (look []) W (.leaf (.d x)) v := by
  obtain ⟨fuel, hf⟩ := h
  have hc : ∃ a n c, v = .slice a n c := by
    unfold Value.okWide at hv
    rw [ht] at hv
    simp only [Cell.okWide, ht] at hv
    cases v <;> first | exact ⟨_, _, _, rfl⟩ | (simp [Cell.ok, ht] at hv)
  obtain ⟨a, n, c, rfl⟩ := hc
  have hcs : (Value.slice a n c).cells.toList = [Value.slice a n c] := rfl
  rw [hcs] at hf
  obtain ⟨ds, hq, ha⟩ := hr _ _ _ hf
  match ds, ha with
  | [x], ha => exact ⟨x, hq, _, rfl, ha.1⟩
theorem plates_read {b0 : Nat} {r : Reach} (hv : Value.okWide Tryz.prog W r b0 52 v) (h : DataW.Trod enc Tryz.prog W 0 (fun _ => true) true 52 v d ps) :
    ∃ l : List Pl, l.length ≤ 9223372036854775807 ∧ RepV (fun b _ => b < W.heap.size) noVal (look []) W (.leaf (.d (plsD l))) v := by
  obtain ⟨x, ⟨l, e⟩, hr⟩ := one_read (e := 70) (r_sl (k := 3) V221 r_plate V221 (by decide)) V221 hv h
  cases e
  exact ⟨l, by have := sl_len (P := Tryz.prog) (e := 70) V221 hv h hr; rwa [List.length_map] at this, hr⟩
theorem bytes_read {b0 : Nat} {r : Reach} (hv : Value.okWide Tryz.prog W r b0 53 v) (h : DataW.Trod enc Tryz.prog W 0 (fun _ => true) true 53 v d ps) :
    ∃ l : Bs, l.length ≤ 9223372036854775807 ∧ RepV (fun b _ => b < W.heap.size) noVal (look []) W (.leaf (.d (bysD l))) v := by
  obtain ⟨x, ⟨l, e⟩, hr⟩ := one_read (e := 5) r_bytes V221 hv h
  cases e
  exact ⟨l, by have := sl_len (P := Tryz.prog) (e := 5) V221 hv h hr; rwa [byD_len] at this, hr⟩
end
end Go.Mw

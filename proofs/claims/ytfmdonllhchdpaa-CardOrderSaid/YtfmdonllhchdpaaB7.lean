/- Contracts of the sorting functions: exchanges and merges. -/
import Derived.Test.YtfmdonllhchdpaaB4
import Derived.Test.YtfmdonllhchdpaaB3
import Derived.Test.YtfmdonllhchdpaaB6
set_option linter.unusedSimpArgs false
set_option linter.unusedVariables false
set_option linter.unusedSectionVars false
set_option linter.deprecated false
namespace Go.Mw
open Go.Proofs
set_option maxRecDepth 20000 in
set_option maxHeartbeats 4000000 in
/-- slices.swapRangeCmpFunc[meterworks/card.numbered] -/
theorem c_swapRange_numbered {g : FuncId} {ds : List D} (p u m v q : List Num) (n : Nat) (huv : u.length = v.length) (hn : p.length + u.length + m.length + v.length + q.length = n) (hn2 : n ≤ 1000) : Con Try.prog 70 [.leaf (.own 900 0 n n), .int p.length, .int ((p.length + u.length + m.length : Nat) : Int), .int u.length, .leaf (.d (.fn g ds))] [(900, .arr 77 4 ((swS p u m v q 0).map encNum))] (.ret (.tup []) [(900, .arr 77 4 ((swS p u m v q u.length).map encNum))]) := by
  refine con_of follows_mixed Try.func70 rfl (by simp only [List.length_cons, List.length_nil, Try.ntmps70]; omega) (by kernel_rfl) rfl ?_
  refine Exec.reg ?_
  refine Run.op (by simp only [go_sem] <;> rfl) (by simp only [go_sem] <;> rfl) ?_
  refine Run.nil ?_
  refine Exec.blk1 ?_
  refine Exec.forA [0, 1, 2, 3, 10] [900] (u.length) (fun k => [.slot 10 (.int k), .obj 900 (.arr 77 4 ((swS p u m v q k).map encNum))]) (fun _ => True) (fun k => by simp only [go_sem] <;> rfl) (by simp only [go_sem, Int.natCast_zero] <;> rfl) ?_ (fun k hk hX => ?_)
  · trivial
  · skip
    refine Exec.assocS ?_
    refine Exec.reg ?_
    iterate 3 (refine Run.op (by simp only [go_sem] <;> rfl) (by simp only [go_sem] <;> rfl) ?_)
    refine Run.nil ?_
    refine Exec.cndS (by simp only [go_sem] <;> rfl) (fun hb13 => ?_) (fun hb13 => ?_)
    · skip
      have hlt := of_decide_eq_true hb13
      have hlt2 : k < u.length := by omega
      obtain ⟨x, hx⟩ : ∃ x, u[k]? = some x := ⟨_, List.getElem?_eq_getElem hlt2⟩
      obtain ⟨y, hy⟩ : ∃ y, v[k]? = some y := ⟨_, List.getElem?_eq_getElem (by omega)⟩
      have ga := swS_a (p := p) (m := m) (q := q) huv hx
      have gb := swS_b (p := p) (m := m) (q := q) huv hy
      have gs := swS_set (p := p) (m := m) (q := q) huv hx hy
      have gl : (swS p u m v q k).length = n := by rw [swS_len huv]; omega
      have t1 : ((p.length : Int) + k).toNat = p.length + k := by omega
      have t2 : (((p.length + u.length + m.length : Nat) : Int) + k).toNat = p.length + u.length + m.length + k := by omega
      have hne : p.length + k ≠ p.length + u.length + m.length + k := by omega
      refine Exec.skipS ?_
      refine Exec.blk ?_
      refine Exec.opk1 26 ?_
      refine OpenK.op (by simp only [go_sem, ga, gb, gl, t1, t2, List.getElem?_set_ne hne] <;> rfl) (by simp only [go_sem] <;> rfl) (by simp only [go_sem] <;> rfl) ?_
      refine OpenK.op (by simp only [go_sem, ga, gb, gl, t1, t2, List.getElem?_set_ne hne] <;> rfl) (by simp only [go_sem] <;> rfl) (by simp only [go_sem] <;> rfl) ?_
      refine OpenK.op (by simp only [go_sem, ga, gb, gl, t1, t2, List.getElem?_set_ne hne] <;> rfl) (by simp only [go_sem] <;> rfl) (by simp only [go_sem] <;> rfl) ?_
      refine OpenK.op (by simp only [go_sem, ga, gb, gl, t1, t2, List.getElem?_set_ne hne]; (try simp (disch := omega) only [IntWalk.i64_in, IntWalk.u64_in, if_neg, if_pos])<;> rfl) (by simp only [go_sem] <;> rfl) (by simp only [go_sem] <;> rfl) ?_
      refine OpenK.op (by simp only [go_sem, ga, gb, gl, t1, t2, List.getElem?_set_ne hne] <;> rfl) (by simp only [go_sem] <;> rfl) (by simp only [go_sem] <;> rfl) ?_
      refine OpenK.op (by simp only [go_sem, ga, gb, gl, t1, t2, List.getElem?_set_ne hne] <;> rfl) (by simp only [go_sem] <;> rfl) (by simp only [go_sem] <;> rfl) ?_
      refine OpenK.op (by simp only [go_sem, ga, gb, gl, t1, t2, List.getElem?_set_ne hne] <;> rfl) (by simp only [go_sem] <;> rfl) (by simp only [go_sem] <;> rfl) ?_
      refine OpenK.op (by simp only [go_sem, ga, gb, gl, t1, t2, List.getElem?_set_ne hne]; (try simp (disch := omega) only [IntWalk.i64_in, IntWalk.u64_in, if_neg, if_pos])<;> rfl) (by simp only [go_sem] <;> rfl) (by simp only [go_sem] <;> rfl) ?_
      refine OpenK.op (by simp only [go_sem, ga, gb, gl, t1, t2, List.getElem?_set_ne hne] <;> rfl) (by simp only [go_sem] <;> rfl) (by simp only [go_sem] <;> rfl) ?_
      refine OpenK.op (by simp only [go_sem, ga, gb, gl, t1, t2, List.getElem?_set_ne hne] <;> rfl) (by simp only [go_sem] <;> rfl) (by simp only [go_sem] <;> rfl) ?_
      refine OpenK.op (by simp only [go_sem, ga, gb, gl, t1, t2, List.getElem?_set_ne hne] <;> rfl) (by simp only [go_sem] <;> rfl) (by simp only [go_sem] <;> rfl) ?_
      refine OpenK.op (by simp only [go_sem, ga, gb, gl, t1, t2, List.getElem?_set_ne hne]; (try simp (disch := omega) only [IntWalk.i64_in, IntWalk.u64_in, if_neg, if_pos])<;> rfl) (by simp only [go_sem] <;> rfl) (by simp only [go_sem] <;> rfl) ?_
      refine OpenK.op (by simp only [go_sem, ga, gb, gl, t1, t2, List.getElem?_set_ne hne]; (try simp (disch := omega) only [if_pos]); (try simp only [go_sem, ga, gb, gl, t1, t2, List.getElem?_set_ne hne])<;> rfl) (by simp only [go_sem] <;> rfl) (by simp only [go_sem] <;> rfl) ?_
      refine OpenK.op (by simp only [go_sem, ga, gb, gl, t1, t2, List.getElem?_set_ne hne] <;> rfl) (by simp only [go_sem] <;> rfl) (by simp only [go_sem] <;> rfl) ?_
      refine OpenK.op (by simp only [go_sem, ga, gb, gl, t1, t2, List.getElem?_set_ne hne] <;> rfl) (by simp only [go_sem] <;> rfl) (by simp only [go_sem] <;> rfl) ?_
      refine OpenK.op (by simp only [go_sem, ga, gb, gl, t1, t2, List.getElem?_set_ne hne] <;> rfl) (by simp only [go_sem] <;> rfl) (by simp only [go_sem] <;> rfl) ?_
      refine OpenK.op (by simp only [go_sem, ga, gb, gl, t1, t2, List.getElem?_set_ne hne] <;> rfl) (by simp only [go_sem] <;> rfl) (by simp only [go_sem] <;> rfl) ?_
      refine OpenK.op (by simp only [go_sem, ga, gb, gl, t1, t2, List.getElem?_set_ne hne]; (try simp (disch := omega) only [IntWalk.i64_in, IntWalk.u64_in, if_neg, if_pos])<;> rfl) (by simp only [go_sem] <;> rfl) (by simp only [go_sem] <;> rfl) ?_
      refine OpenK.op (by simp only [go_sem, ga, gb, gl, t1, t2, List.getElem?_set_ne hne]; (try simp (disch := omega) only [if_pos]); (try simp only [go_sem, ga, gb, gl, t1, t2, List.getElem?_set_ne hne])<;> rfl) (by simp only [go_sem] <;> rfl) (by simp only [go_sem] <;> rfl) ?_
      refine OpenK.op (by simp only [go_sem, ga, gb, gl, t1, t2, List.getElem?_set_ne hne] <;> rfl) (by simp only [go_sem] <;> rfl) (by simp only [go_sem] <;> rfl) ?_
      refine OpenK.op (by simp only [go_sem, ga, gb, gl, t1, t2, List.getElem?_set_ne hne]; (try simp (disch := omega) only [if_pos]); (try simp only [go_sem, ga, gb, gl, t1, t2, List.getElem?_set_ne hne])<;> rfl) (by simp only [go_sem] <;> rfl) (by simp only [go_sem] <;> rfl) ?_
      refine OpenK.op (by simp only [go_sem, ga, gb, gl, t1, t2, List.getElem?_set_ne hne] <;> rfl) (by simp only [go_sem] <;> rfl) (by simp only [go_sem] <;> rfl) ?_
      refine OpenK.op (by simp only [go_sem, ga, gb, gl, t1, t2, List.getElem?_set_ne hne]; (try simp (disch := omega) only [if_pos]); (try simp only [go_sem, ga, gb, gl, t1, t2, List.getElem?_set_ne hne])<;> rfl) (by simp only [go_sem] <;> rfl) (by simp only [go_sem] <;> rfl) ?_
      refine OpenK.op (by simp only [go_sem, ga, gb, gl, t1, t2, List.getElem?_set_ne hne] <;> rfl) (by simp only [go_sem] <;> rfl) (by simp only [go_sem] <;> rfl) ?_
      refine OpenK.nil (OpenE.finT (by kernel_rfl) (by kernel_rfl) (by kernel_rfl) ?_)
      refine BlkK.nrm ?_
      refine Exec.reg1 ?_
      refine Run.op (by simp only [go_sem, ga, gb, gl, t1, t2, List.getElem?_set_ne hne] <;> rfl) (by simp only [go_sem] <;> rfl) ?_
      refine Run.op (by simp only [go_sem, ga, gb, gl, t1, t2, List.getElem?_set_ne hne]; (try simp (disch := omega) only [IntWalk.i64_in, IntWalk.u64_in, if_neg, if_pos])<;> rfl) (by simp only [go_sem] <;> rfl) ?_
      refine Run.op (by simp only [go_sem, ga, gb, gl, t1, t2, List.getElem?_set_ne hne] <;> rfl) (by simp only [go_sem] <;> rfl) ?_
      refine Run.nil ?_
      refine ForK.nxt ?_ ?_ ?_
      · omega
      · exact Ghost.kp [0, 1, 2, 3, 10] [900] (by simp only [go_sem, ga, gb, gl, t1, t2, List.getElem?_set_ne hne]; first | ((repeat' (first | with_reducible_and_instances rfl | refine st_eq ?_ ?_ ?_ | refine ret_eq ?_ | refine tup_eq ?_ | refine tm_eq ?_ ?_ | refine arr_eq ?_ | refine cells_eq ?_ | refine val_eq ?_ | refine ls_eq ?_ ?_ | refine own_eq ?_ ?_ | refine sl_eq ?_ | refine b_eq ?_ | (refine i_eq ?_; omega))); (all_goals (rw [← gs, List.map_set, List.map_set]; rfl))) | rfl)
      · trivial
    · skip
      have hke : k = u.length := by have := of_decide_eq_false hb13; omega
      subst hke
      refine Exec.exitS ?_
      refine ForK.ext ?_
      refine Blk1K.hit ?_
      exact Ends.fin0 [900] (rs := []) rfl (by simp only [go_sem] <;> rfl) (by simp only [go_sem] <;> first | rfl | ((repeat' (first | with_reducible_and_instances rfl | refine st_eq ?_ ?_ ?_ | refine ret_eq ?_ | refine tup_eq ?_ | refine tm_eq ?_ ?_ | refine arr_eq ?_ | refine cells_eq ?_ | refine val_eq ?_ | refine ls_eq ?_ ?_ | refine own_eq ?_ ?_ | refine sl_eq ?_ | refine b_eq ?_ | (refine i_eq ?_; omega))); done))

structure Rot where
  p : List Num
  u : List Num
  v : List Num
  q : List Num
def Rot.now (t : Rot) : List Num := t.p ++ (t.u ++ (t.v ++ t.q))
def Rot.goal (t : Rot) : List Num := t.p ++ (t.v ++ (t.u ++ t.q))
set_option maxRecDepth 20000 in
set_option maxHeartbeats 8000000 in
/-- slices.rotateCmpFunc[meterworks/card.numbered] -/
theorem c_rotate_numbered {g : FuncId} {ds : List D} (p u v q : List Num) (n : Nat) (hu : 0 < u.length) (hv : 0 < v.length) (hn : p.length + u.length + v.length + q.length = n) (hn2 : n ≤ 1000) : Con Try.prog 69 [.leaf (.own 900 0 n n), .int p.length, .int ((p.length + u.length : Nat) : Int), .int ((p.length + u.length + v.length : Nat) : Int), .leaf (.d (.fn g ds))] [(900, .arr 77 4 ((p ++ (u ++ (v ++ q))).map encNum))] (.ret (.tup []) [(900, .arr 77 4 ((p ++ (v ++ (u ++ q))).map encNum))]) := by
  refine con_of follows_mixed Try.func69 rfl (by simp only [List.length_cons, List.length_nil, Try.ntmps69]; omega) (by kernel_rfl) rfl ?_
  refine Exec.reg ?_
  iterate 2 (refine Run.op (by simp only [go_sem] <;> rfl) (by simp only [go_sem] <;> rfl) ?_)
  refine Run.op (by simp only [go_sem]; (try simp (disch := omega) only [IntWalk.i64_in, IntWalk.u64_in, if_neg, if_pos])<;> rfl) (by simp only [go_sem] <;> rfl) ?_
  refine Run.op (by simp only [go_sem] <;> rfl) (by simp only [go_sem] <;> rfl) ?_
  refine Run.nil ?_
  refine Exec.reg ?_
  iterate 2 (refine Run.op (by simp only [go_sem] <;> rfl) (by simp only [go_sem] <;> rfl) ?_)
  refine Run.op (by simp only [go_sem]; (try simp (disch := omega) only [IntWalk.i64_in, IntWalk.u64_in, if_neg, if_pos])<;> rfl) (by simp only [go_sem] <;> rfl) ?_
  refine Run.op (by simp only [go_sem] <;> rfl) (by simp only [go_sem] <;> rfl) ?_
  refine Run.nil ?_
  refine Exec.blk ?_
  have i0 : ((p.length + u.length : Nat) : Int) - p.length = u.length := by omega
  have i1 : ((p.length + u.length + v.length : Nat) : Int) - ((p.length + u.length : Nat) : Int) = v.length := by omega
  refine Exec.whl [0, 2, 4, 10, 11] [900] (fun (t : Rot) => [.slot 10 (.int t.u.length), .slot 11 (.int t.v.length), .obj 900 (.arr 77 4 ((t.now).map encNum))]) (fun t => (0 < t.u.length ∧ 0 < t.v.length) ∧ t.p.length + t.u.length = p.length + u.length ∧ t.p.length + t.u.length + t.v.length + t.q.length = n ∧ t.goal = p ++ (v ++ (u ++ q))) (fun t => t.u.length + t.v.length) (⟨p, u, v, q⟩) (fun t => by simp only [go_sem] <;> rfl) (by simp only [go_sem, i0, i1] <;> rfl) ?_ (fun t hX => ?_)
  · exact ⟨⟨hu, hv⟩, rfl, hn, rfl⟩
  · skip
    obtain ⟨⟨hu1, hv1⟩, hm1, hn1, hgoal⟩ := hX
    obtain ⟨P, U, V, Q⟩ := t
    simp only at hu1 hv1 hm1 hn1
    simp only [Rot.goal] at hgoal
    refine Exec.assocS ?_
    refine Exec.reg ?_
    iterate 3 (refine Run.op (by simp only [go_sem] <;> rfl) (by simp only [go_sem] <;> rfl) ?_)
    refine Run.nil ?_
    refine Exec.cndS (by simp only [go_sem] <;> rfl) (fun hb20 => ?_) (fun hb20 => ?_)
    · skip
      have hne : U.length ≠ V.length := fun h => by rw [h] at hb20; simp at hb20
      refine Exec.skipS ?_
      refine Exec.blk1 ?_
      refine Exec.reg ?_
      iterate 3 (refine Run.op (by simp only [go_sem] <;> rfl) (by simp only [go_sem] <;> rfl) ?_)
      refine Run.nil ?_
      refine Exec.cnd (by simp only [go_sem] <;> rfl) (fun hb23 => ?_) (fun hb23 => ?_)
      · skip
        have hgt : V.length < U.length := by have := of_decide_eq_true hb23; omega
        obtain ⟨U1, U2, rfl, hu11, hu22⟩ := cutL (l := U) (n := V.length) (by omega)
        have hlen : U1.length = V.length := hu11
        have hll : (U1 ++ U2).length = U1.length + U2.length := List.length_append
        have hnow : Rot.now ⟨P, U1 ++ U2, V, Q⟩ = swS P U1 U2 V Q 0 := by rw [swS_zero]; simp [Rot.now]
        have hnext : Rot.now ⟨P ++ V, U2, U1, Q⟩ = swS P U1 U2 V Q U1.length := by rw [swS_end hlen]; simp [Rot.now]
        rw [hnow]
        refine Exec.reg ?_
        iterate 3 (refine Run.op (by simp only [go_sem, hnext] <;> rfl) (by simp only [go_sem] <;> rfl) ?_)
        refine Run.op (by simp only [go_sem, hnext]; (try simp (disch := omega) only [IntWalk.i64_in, IntWalk.u64_in, if_neg, if_pos])<;> rfl) (by simp only [go_sem] <;> rfl) ?_
        iterate 3 (refine Run.op (by simp only [go_sem, hnext] <;> rfl) (by simp only [go_sem] <;> rfl) ?_)
        refine Run.lendA 900 900 (c_swapRange_numbered P U1 U2 V Q n (by omega) (by omega) hn2) (by first | (simp [swS_len hlen]; done) | (simp [swS_len hlen]; omega)) (by simp only [go_sem]) (by simp only [go_sem] <;> rfl) (by simp only [go_sem, hnext] <;> rfl) (by simp only [go_sem, hnext] <;> rfl) (by exact ⟨by first | exact WkR.pure rfl | exact WkR.of rfl rfl | exact WkR.nil _ | exact WkR.int (by first | omega | (simp; done) | (simp; omega)), by first | exact WkR.pure rfl | exact WkR.of rfl rfl | exact WkR.nil _ | exact WkR.int (by first | omega | (simp; done) | (simp; omega)), by first | exact WkR.pure rfl | exact WkR.of rfl rfl | exact WkR.nil _ | exact WkR.int (by first | omega | (simp; done) | (simp; omega)), by first | exact WkR.pure rfl | exact WkR.of rfl rfl | exact WkR.nil _ | exact WkR.int (by first | omega | (simp; done) | (simp; omega)), by first | exact WkR.pure rfl | exact WkR.of rfl rfl | exact WkR.nil _ | exact WkR.int (by first | omega | (simp; done) | (simp; omega)), trivial⟩) (by simp only [go_sem, hnext] <;> rfl) ?_
        refine Run.nil ?_
        refine Exec.reg1 ?_
        iterate 2 (refine Run.op (by simp only [go_sem, hnext] <;> rfl) (by simp only [go_sem] <;> rfl) ?_)
        refine Run.op (by simp only [go_sem, hnext]; (try simp (disch := omega) only [IntWalk.i64_in, IntWalk.u64_in, if_neg, if_pos])<;> rfl) (by simp only [go_sem] <;> rfl) ?_
        refine Run.op (by simp only [go_sem, hnext] <;> rfl) (by simp only [go_sem] <;> rfl) ?_
        refine Run.nil ?_
        refine Blk1K.nrm ?_
        refine WhlK.nxt (⟨P ++ V, U2, U1, Q⟩) ?_ ?_ ?_
        · simp only [List.length_append] at *; omega
        · exact ⟨⟨by simp only; omega, by simp only; omega⟩, by simp only [List.length_append]; omega, by simp only [List.length_append]; omega, by rw [← hgoal]; simp [Rot.goal]⟩
        · exact Ghost.kp [0, 2, 4, 10, 11] [900] (by simp only [go_sem, hnext]; first | ((repeat' (first | with_reducible_and_instances rfl | refine st_eq ?_ ?_ ?_ | refine ret_eq ?_ | refine tup_eq ?_ | refine tm_eq ?_ ?_ | refine arr_eq ?_ | refine cells_eq ?_ | refine val_eq ?_ | refine ls_eq ?_ ?_ | refine own_eq ?_ ?_ | refine sl_eq ?_ | refine b_eq ?_ | (refine i_eq ?_; omega))); done) | rfl)
      · skip
        have hgt : U.length < V.length := by have := of_decide_eq_false hb23; omega
        obtain ⟨V1, V2, rfl, hv11, hv22⟩ := cutL (l := V) (n := V.length - U.length) (by omega)
        have hlen : U.length = V2.length := by have : (V1 ++ V2).length = V1.length + V2.length := List.length_append; omega
        have hll : (V1 ++ V2).length = V1.length + V2.length := List.length_append
        have hnow : Rot.now ⟨P, U, V1 ++ V2, Q⟩ = swS P U V1 V2 Q 0 := by rw [swS_zero]; simp [Rot.now]
        have hnext : Rot.now ⟨P, V2, V1, U ++ Q⟩ = swS P U V1 V2 Q U.length := by rw [swS_end hlen]; simp [Rot.now]
        rw [hnow]
        refine Exec.reg ?_
        iterate 3 (refine Run.op (by simp only [go_sem, hnext] <;> rfl) (by simp only [go_sem] <;> rfl) ?_)
        refine Run.op (by simp only [go_sem, hnext]; (try simp (disch := omega) only [IntWalk.i64_in, IntWalk.u64_in, if_neg, if_pos])<;> rfl) (by simp only [go_sem] <;> rfl) ?_
        iterate 2 (refine Run.op (by simp only [go_sem, hnext] <;> rfl) (by simp only [go_sem] <;> rfl) ?_)
        refine Run.op (by simp only [go_sem, hnext]; (try simp (disch := omega) only [IntWalk.i64_in, IntWalk.u64_in, if_neg, if_pos])<;> rfl) (by simp only [go_sem] <;> rfl) ?_
        refine Run.op (by simp only [go_sem, hnext] <;> rfl) (by simp only [go_sem] <;> rfl) ?_
        refine Run.op (by simp only [go_sem, hnext]; (try simp (disch := omega) only [IntWalk.i64_in, IntWalk.u64_in, if_neg, if_pos])<;> rfl) (by simp only [go_sem] <;> rfl) ?_
        iterate 2 (refine Run.op (by simp only [go_sem, hnext] <;> rfl) (by simp only [go_sem] <;> rfl) ?_)
        refine Run.lendA 900 900 (c_swapRange_numbered P U V1 V2 Q n (by omega) (by omega) hn2) (by first | (simp [swS_len hlen]; done) | (simp [swS_len hlen]; omega)) (by simp only [go_sem]) (by simp only [go_sem] <;> rfl) (by simp only [go_sem, hnext] <;> rfl) (by simp only [go_sem, hnext] <;> rfl) (by exact ⟨by first | exact WkR.pure rfl | exact WkR.of rfl rfl | exact WkR.nil _ | exact WkR.int (by first | omega | (simp; done) | (simp; omega)), by first | exact WkR.pure rfl | exact WkR.of rfl rfl | exact WkR.nil _ | exact WkR.int (by first | omega | (simp; done) | (simp; omega)), by first | exact WkR.pure rfl | exact WkR.of rfl rfl | exact WkR.nil _ | exact WkR.int (by first | omega | (simp; done) | (simp; omega)), by first | exact WkR.pure rfl | exact WkR.of rfl rfl | exact WkR.nil _ | exact WkR.int (by first | omega | (simp; done) | (simp; omega)), by first | exact WkR.pure rfl | exact WkR.of rfl rfl | exact WkR.nil _ | exact WkR.int (by first | omega | (simp; done) | (simp; omega)), trivial⟩) (by simp only [go_sem, hnext] <;> rfl) ?_
        refine Run.nil ?_
        refine Exec.reg1 ?_
        iterate 2 (refine Run.op (by simp only [go_sem, hnext] <;> rfl) (by simp only [go_sem] <;> rfl) ?_)
        refine Run.op (by simp only [go_sem, hnext]; (try simp (disch := omega) only [IntWalk.i64_in, IntWalk.u64_in, if_neg, if_pos])<;> rfl) (by simp only [go_sem] <;> rfl) ?_
        refine Run.op (by simp only [go_sem, hnext] <;> rfl) (by simp only [go_sem] <;> rfl) ?_
        refine Run.nil ?_
        refine Blk1K.nrm ?_
        refine WhlK.nxt (⟨P, V2, V1, U ++ Q⟩) ?_ ?_ ?_
        · simp only [List.length_append] at *; omega
        · exact ⟨⟨by simp only; omega, by simp only; omega⟩, by simp only; omega, by simp only [List.length_append]; omega, by rw [← hgoal]; simp [Rot.goal]⟩
        · exact Ghost.kp [0, 2, 4, 10, 11] [900] (by simp only [go_sem, hnext]; first | ((repeat' (first | with_reducible_and_instances rfl | refine st_eq ?_ ?_ ?_ | refine ret_eq ?_ | refine tup_eq ?_ | refine tm_eq ?_ ?_ | refine arr_eq ?_ | refine cells_eq ?_ | refine val_eq ?_ | refine ls_eq ?_ ?_ | refine own_eq ?_ ?_ | refine sl_eq ?_ | refine b_eq ?_ | (refine i_eq ?_; omega))); done) | rfl)
    · skip
      have hlen : U.length = V.length := Int.ofNat_inj.1 (by simpa using hb20)
      have hnow : Rot.now ⟨P, U, V, Q⟩ = swS P U [] V Q 0 := by rw [swS_zero]; simp [Rot.now]
      have hend : swS P U [] V Q U.length = p ++ (v ++ (u ++ q)) := by rw [swS_end hlen, ← hgoal]; simp
      rw [hnow]
      refine Exec.exitS ?_
      refine WhlK.ext ?_
      refine BlkK.hit ?_
      refine Exec.reg1 ?_
      iterate 3 (refine Run.op (by simp only [go_sem, hend] <;> rfl) (by simp only [go_sem] <;> rfl) ?_)
      refine Run.op (by simp only [go_sem, hend]; (try simp (disch := omega) only [IntWalk.i64_in, IntWalk.u64_in, if_neg, if_pos])<;> rfl) (by simp only [go_sem] <;> rfl) ?_
      iterate 3 (refine Run.op (by simp only [go_sem, hend] <;> rfl) (by simp only [go_sem] <;> rfl) ?_)
      refine Run.lendA 900 900 (c_swapRange_numbered P U [] V Q n (by omega) (by simp only [List.length_nil]; omega) hn2) (by first | (simp [swS_len hlen]; done) | (simp [swS_len hlen]; omega)) (by simp only [go_sem]) (by simp only [go_sem] <;> rfl) (by simp only [go_sem, hend] <;> rfl) (by simp only [go_sem, hend] <;> rfl) (by exact ⟨by first | exact WkR.pure rfl | exact WkR.of rfl rfl | exact WkR.nil _ | exact WkR.int (by first | omega | (simp; done) | (simp; omega)), by first | exact WkR.pure rfl | exact WkR.of rfl rfl | exact WkR.nil _ | exact WkR.int (by first | omega | (simp; done) | (simp; omega)), by first | exact WkR.pure rfl | exact WkR.of rfl rfl | exact WkR.nil _ | exact WkR.int (by first | omega | (simp; done) | (simp; omega)), by first | exact WkR.pure rfl | exact WkR.of rfl rfl | exact WkR.nil _ | exact WkR.int (by first | omega | (simp; done) | (simp; omega)), by first | exact WkR.pure rfl | exact WkR.of rfl rfl | exact WkR.nil _ | exact WkR.int (by first | omega | (simp; done) | (simp; omega)), trivial⟩) (by simp only [go_sem, hend] <;> rfl) ?_
      refine Run.nil ?_
      exact Ends.fin0 [900] (rs := []) rfl (by simp only [go_sem, hend] <;> rfl) (by simp only [go_sem, hend] <;> first | rfl | ((repeat' (first | with_reducible_and_instances rfl | refine st_eq ?_ ?_ ?_ | refine ret_eq ?_ | refine tup_eq ?_ | refine tm_eq ?_ ?_ | refine arr_eq ?_ | refine cells_eq ?_ | refine val_eq ?_ | refine ls_eq ?_ ?_ | refine own_eq ?_ ?_ | refine sl_eq ?_ | refine b_eq ?_ | (refine i_eq ?_; omega))); done))

theorem half_nat (n : Nat) : ((n : Nat) : Int).fdiv (2 ^ (min (Int.toNat 1) 64)) = ((n / 2 : Nat) : Int) := by
  have e : min (Int.toNat 1) 64 = 1 := by decide
  rw [e, Int.fdiv_eq_ediv_of_nonneg _ (by decide)]
  omega
set_option maxRecDepth 20000 in
set_option maxHeartbeats 64000000 in
/-- slices.symMergeCmpFunc[meterworks/card.numbered] -/
theorem c_symStep_numbered {g : FuncId} {ds : List D} (c : Num → Num → Int) (hg : canCall Try.prog g = true) (hc : ∀ x y, Contract Try.prog g (numV x :: numV y :: ds.map fun x => .leaf (.d x)) (.int (c x y)) []) (hw : Weak (fun x y => decide (c x y < 0))) (n N : Nat) (hn2 : n ≤ 1000) (IH : ∀ p l r q : List Num, l.length + r.length < N → 0 < l.length → 0 < r.length → InO (fun x y => decide (c x y < 0)) l → InO (fun x y => decide (c x y < 0)) r → p.length + l.length + r.length + q.length = n → Con Try.prog 68 [.leaf (.own 900 0 n n), .int (p).length, .int (((p).length + (l).length : Nat) : Int), .int (((p).length + (l).length + (r).length : Nat) : Int), .leaf (.d (.fn g ds))] [(900, .arr 77 4 ((p ++ (l ++ (r ++ q))).map encNum))] (.ret (.tup []) [(900, .arr 77 4 ((p ++ (mg (fun x y => decide (c x y < 0)) l r ++ q)).map encNum))])) (p l r q : List Num) (hN : l.length + r.length = N) (hl0 : 0 < l.length) (hr0 : 0 < r.length) (hl : InO (fun x y => decide (c x y < 0)) l) (hr : InO (fun x y => decide (c x y < 0)) r) (hn : p.length + l.length + r.length + q.length = n) : Con Try.prog 68 [.leaf (.own 900 0 n n), .int (p).length, .int (((p).length + (l).length : Nat) : Int), .int (((p).length + (l).length + (r).length : Nat) : Int), .leaf (.d (.fn g ds))] [(900, .arr 77 4 ((p ++ (l ++ (r ++ q))).map encNum))] (.ret (.tup []) [(900, .arr 77 4 ((p ++ (mg (fun x y => decide (c x y < 0)) l r ++ q)).map encNum))]) := by
  have hdl : (p ++ (l ++ (r ++ q))).length = n := by simp; omega
  refine con_of follows_mixed Try.func68 rfl (by simp only [List.length_cons, List.length_nil, Try.ntmps68]; omega) (by kernel_rfl) rfl ?_
  refine Exec.assocS ?_
  refine Exec.reg ?_
  iterate 2 (refine Run.op (by simp only [go_sem] <;> rfl) (by simp only [go_sem] <;> rfl) ?_)
  refine Run.op (by simp only [go_sem]; (try simp (disch := omega) only [IntWalk.i64_in, IntWalk.u64_in, if_neg, if_pos])<;> rfl) (by simp only [go_sem] <;> rfl) ?_
  refine Run.op (by simp only [go_sem] <;> rfl) (by simp only [go_sem] <;> rfl) ?_
  refine Run.nil ?_
  refine Exec.cndS (by simp only [go_sem] <;> rfl) (fun hb28 => ?_) (fun hb28 => ?_)
  · skip
    have hl1 : l.length = 1 := by
      have : ((p.length + l.length : Nat) : Int) - p.length = 1 := by simpa using hb28
      omega
    obtain ⟨x0, rfl⟩ : ∃ x0, l = [x0] := by
      match l, hl1 with
      | [x], _ => exact ⟨x, rfl⟩
    have i0 : ((p.length + [x0].length : Nat) : Int) = ((p.length + 1 + 0 : Nat) : Int) := rfl
    have i1 : ((p.length + [x0].length + r.length : Nat) : Int) = ((p.length + 1 + r.length : Nat) : Int) := rfl
    have hsz : p.length + 1 + r.length + q.length = n := by have : [x0].length = 1 := rfl; omega
    refine Exec.assocS ?_
    refine Exec.reg ?_
    iterate 2 (refine Run.op (by simp only [go_sem] <;> rfl) (by simp only [go_sem] <;> rfl) ?_)
    refine Run.nil ?_
    refine Exec.assocS ?_
    refine Exec.reg ?_
    iterate 2 (refine Run.op (by simp only [go_sem] <;> rfl) (by simp only [go_sem] <;> rfl) ?_)
    refine Run.nil ?_
    refine Exec.assocS ?_
    refine Exec.blk ?_
    refine Exec.whl [0, 1, 4, 10, 11] [900] (fun (t : Nat × Nat) => [.slot 10 (.int ((p.length + 1 + t.1 : Nat) : Int)), .slot 11 (.int ((p.length + 1 + t.2 : Nat) : Int))]) (fun t => (t.1 ≤ t.2 ∧ t.2 ≤ r.length) ∧ (∀ k y, k < t.1 → r[k]? = some y → decide (c y x0 < 0) = true) ∧ (∀ k y, t.2 ≤ k → r[k]? = some y → decide (c y x0 < 0) = false)) (fun t => t.2 - t.1) ((0, r.length)) (fun t => by simp only [go_sem] <;> rfl) (by simp only [go_sem, i0, i1] <;> rfl) ?_ (fun t hX => ?_)
    · exact ⟨⟨Nat.zero_le _, Nat.le_refl _⟩, fun k y hk => absurd hk (Nat.not_lt_zero _), fun k y hk hy => absurd (List.getElem?_eq_some_iff.1 hy).1 (by simp only at hk; omega)⟩
    · skip
      obtain ⟨⟨h12, h2r⟩, hlo, hhi⟩ := hX
      obtain ⟨i, j⟩ := t
      simp only at h12 h2r hlo hhi
      refine Exec.assocS ?_
      refine Exec.reg ?_
      iterate 3 (refine Run.op (by simp only [go_sem] <;> rfl) (by simp only [go_sem] <;> rfl) ?_)
      refine Run.nil ?_
      refine Exec.cndS (by simp only [go_sem] <;> rfl) (fun hb33 => ?_) (fun hb33 => ?_)
      · skip
        have hij : i < j := by have := of_decide_eq_true hb33; omega
        have hsum : ((p.length + 1 + i : Nat) : Int) + ((p.length + 1 + j : Nat) : Int) = ((p.length + 1 + i + (p.length + 1 + j) : Nat) : Int) := by omega
        have hsh := half_nat (p.length + 1 + i + (p.length + 1 + j))
        obtain ⟨h', hh⟩ : ∃ h', (p.length + 1 + i + (p.length + 1 + j)) / 2 = p.length + 1 + h' := ⟨(p.length + 1 + i + (p.length + 1 + j)) / 2 - (p.length + 1), by omega⟩
        have hi' : i ≤ h' ∧ h' < j := by omega
        have t1 : ((p.length + 1 + h' : Nat) : Int).toNat = p.length + 1 + h' := Int.toNat_natCast _
        obtain ⟨y, hy⟩ : ∃ y, r[h']? = some y := ⟨_, List.getElem?_eq_getElem (by omega)⟩
        have gy : (p ++ x0 :: (r ++ q))[p.length + 1 + h']? = some y := get_r (l := [x0]) hy
        have gx : (p ++ x0 :: (r ++ q))[p.length]? = some x0 := get_l (c := 0) (l := [x0]) rfl
        have hd2 : p.length + (r.length + q.length + 1) = n := by omega
        refine Exec.skipS ?_
        refine Exec.blk1 ?_
        refine Exec.reg ?_
        iterate 2 (refine Run.op (by simp only [go_sem, hsum, hsh, hh, t1, gy, gx, hd2] <;> rfl) (by simp only [go_sem] <;> rfl) ?_)
        refine Run.op (by simp only [go_sem, hsum, hsh, hh, t1, gy, gx, hd2]; (try simp (disch := omega) only [IntWalk.i64_in, IntWalk.u64_in, if_neg, if_pos])<;> rfl) (by simp only [go_sem] <;> rfl) ?_
        refine Run.op (by simp only [go_sem, hsum, hsh, hh, t1, gy, gx, hd2]; (try simp (disch := omega) only [IntWalk.i64_in, IntWalk.u64_in, if_neg, if_pos])<;> rfl) (by simp only [go_sem] <;> rfl) ?_
        refine Run.op (by simp only [go_sem, hsum, hsh, hh, t1, gy, gx, hd2] <;> rfl) (by simp only [go_sem] <;> rfl) ?_
        refine Run.op (by simp only [go_sem, hsum, hsh, hh, t1, gy, gx, hd2]; (try simp (disch := omega) only [IntWalk.i64_in, IntWalk.u64_in, if_neg, if_pos])<;> rfl) (by simp only [go_sem] <;> rfl) ?_
        refine Run.op (by simp only [go_sem, hsum, hsh, hh, t1, gy, gx, hd2] <;> rfl) (by simp only [go_sem] <;> rfl) ?_
        refine Run.nil ?_
        refine Exec.opk 13 ?_
        refine OpenK.op (by simp only [go_sem, hsum, hsh, hh, t1, gy, gx, hd2] <;> rfl) (by simp only [go_sem] <;> rfl) (by simp only [go_sem] <;> rfl) ?_
        refine OpenK.op (by simp only [go_sem, hsum, hsh, hh, t1, gy, gx, hd2] <;> rfl) (by simp only [go_sem] <;> rfl) (by simp only [go_sem] <;> rfl) ?_
        refine OpenK.op (by simp only [go_sem, hsum, hsh, hh, t1, gy, gx, hd2] <;> rfl) (by simp only [go_sem] <;> rfl) (by simp only [go_sem] <;> rfl) ?_
        refine OpenK.op (by simp only [go_sem, hsum, hsh, hh, t1, gy, gx, hd2]; (try simp (disch := omega) only [if_pos]); (try simp only [go_sem, hsum, hsh, hh, t1, gy, gx, hd2])<;> rfl) (by simp only [go_sem] <;> rfl) (by simp only [go_sem] <;> rfl) ?_
        refine OpenK.op (by simp only [go_sem, hsum, hsh, hh, t1, gy, gx, hd2] <;> rfl) (by simp only [go_sem] <;> rfl) (by simp only [go_sem] <;> rfl) ?_
        refine OpenK.op (by simp only [go_sem, hsum, hsh, hh, t1, gy, gx, hd2] <;> rfl) (by simp only [go_sem] <;> rfl) (by simp only [go_sem] <;> rfl) ?_
        refine OpenK.op (by simp only [go_sem, hsum, hsh, hh, t1, gy, gx, hd2] <;> rfl) (by simp only [go_sem] <;> rfl) (by simp only [go_sem] <;> rfl) ?_
        refine OpenK.op (by simp only [go_sem, hsum, hsh, hh, t1, gy, gx, hd2]; (try simp (disch := omega) only [if_pos]); (try simp only [go_sem, hsum, hsh, hh, t1, gy, gx, hd2])<;> rfl) (by simp only [go_sem] <;> rfl) (by simp only [go_sem] <;> rfl) ?_
        refine OpenK.op (by simp only [go_sem, hsum, hsh, hh, t1, gy, gx, hd2] <;> rfl) (by simp only [go_sem] <;> rfl) (by simp only [go_sem] <;> rfl) ?_
        refine OpenK.calw (by simp only [go_sem] <;> rfl) (hc y x0) (by assumption) (by simp only [go_sem, hsum, hsh, hh, t1, gy, gx, hd2] <;> rfl) (by simp only [go_sem, hsum, hsh, hh, t1, gy, gx, hd2] <;> rfl) (by exact ⟨by first | exact WkR.pure rfl | exact WkR.nil _ | exact WkR.int (by omega), by first | exact WkR.pure rfl | exact WkR.nil _ | exact WkR.int (by omega), wkr_caps _ _ _⟩) (fr0) (by simp only [go_sem, hsum, hsh, hh, t1, gy, gx, hd2] <;> rfl) (by simp only [go_sem] <;> rfl) (by simp only [go_sem] <;> rfl) ?_
        refine OpenK.op (by simp only [go_sem, hsum, hsh, hh, t1, gy, gx, hd2] <;> rfl) (by simp only [go_sem] <;> rfl) (by simp only [go_sem] <;> rfl) ?_
        refine OpenK.nil (OpenE.fin (by decide +kernel) (by decide +kernel) ?_)
        refine Exec.cnd (by simp only [go_sem, hsum, hsh, hh, t1, gy, gx, hd2] <;> rfl) (fun hb50 => ?_) (fun hb50 => ?_)
        · skip
          refine Exec.reg1 ?_
          refine Run.op (by simp only [go_sem, hsum, hsh, hh, t1, gy, gx, hd2] <;> rfl) (by simp only [go_sem] <;> rfl) ?_
          refine Run.op (by simp only [go_sem, hsum, hsh, hh, t1, gy, gx, hd2]; (try simp (disch := omega) only [IntWalk.i64_in, IntWalk.u64_in, if_neg, if_pos])<;> rfl) (by simp only [go_sem] <;> rfl) ?_
          refine Run.op (by simp only [go_sem, hsum, hsh, hh, t1, gy, gx, hd2] <;> rfl) (by simp only [go_sem] <;> rfl) ?_
          refine Run.nil ?_
          refine Blk1K.nrm ?_
          refine WhlK.nxt ((h' + 1, j)) ?_ ?_ ?_
          · simp only; omega
          · exact ⟨⟨by simp only; omega, by simp only; omega⟩, ino_lo hw hr hy hb50, hhi⟩
          · exact Ghost.kp [0, 1, 4, 10, 11] [900] (by simp only [go_sem, hsum, hsh, hh, t1, gy, gx, hd2]; first | ((repeat' (first | with_reducible_and_instances rfl | refine st_eq ?_ ?_ ?_ | refine ret_eq ?_ | refine tup_eq ?_ | refine tm_eq ?_ ?_ | refine arr_eq ?_ | refine cells_eq ?_ | refine val_eq ?_ | refine ls_eq ?_ ?_ | refine own_eq ?_ ?_ | refine sl_eq ?_ | refine b_eq ?_ | (refine i_eq ?_; omega))); (all_goals (first | rfl | omega))) | rfl)
        · skip
          refine Exec.reg1 ?_
          iterate 2 (refine Run.op (by simp only [go_sem, hsum, hsh, hh, t1, gy, gx, hd2] <;> rfl) (by simp only [go_sem] <;> rfl) ?_)
          refine Run.nil ?_
          refine Blk1K.nrm ?_
          refine WhlK.nxt ((i, h')) ?_ ?_ ?_
          · simp only; omega
          · exact ⟨⟨by simp only; omega, by simp only; omega⟩, hlo, ino_hi hw hr hy hb50⟩
          · exact Ghost.kp [0, 1, 4, 10, 11] [900] (by simp only [go_sem, hsum, hsh, hh, t1, gy, gx, hd2]; first | ((repeat' (first | with_reducible_and_instances rfl | refine st_eq ?_ ?_ ?_ | refine ret_eq ?_ | refine tup_eq ?_ | refine tm_eq ?_ ?_ | refine arr_eq ?_ | refine cells_eq ?_ | refine val_eq ?_ | refine ls_eq ?_ ?_ | refine own_eq ?_ ?_ | refine sl_eq ?_ | refine b_eq ?_ | (refine i_eq ?_; omega))); done) | rfl)
      · skip
        have hij : i = j := by have := of_decide_eq_false hb33; omega
        subst hij
        have hmg := mg_one_left (lt := (fun x y => decide (c x y < 0))) hlo hhi
        have e0 : Lt p r q x0 0 = p ++ ([x0] ++ (r ++ q)) := by simp [Lt]
        have eN : Lt p r q x0 i = p ++ (mg (fun x y => decide (c x y < 0)) [x0] r ++ q) := by rw [hmg]; simp [Lt]
        refine Exec.exitS ?_
        refine WhlK.ext ?_
        refine BlkK.hit ?_
        refine Exec.assocS ?_
        refine Exec.assocS ?_
        refine Exec.reg ?_
        iterate 2 (refine Run.op (by simp only [go_sem] <;> rfl) (by simp only [go_sem] <;> rfl) ?_)
        refine Run.nil ?_
        refine Exec.blk ?_
        refine Exec.forA [0, 10, 13] [900] (i) (fun k => [.slot 13 (.int ((p.length + k : Nat) : Int)), .obj 900 (.arr 77 4 ((Lt p r q x0 k).map encNum))]) (fun _ => True) (fun k => by simp only [go_sem] <;> rfl) (by simp only [go_sem, e0, Nat.add_zero] <;> rfl) ?_ (fun k hk hX => ?_)
        · trivial
        · skip
          refine Exec.assocS ?_
          refine Exec.reg ?_
          iterate 2 (refine Run.op (by simp only [go_sem] <;> rfl) (by simp only [go_sem] <;> rfl) ?_)
          refine Run.op (by simp only [go_sem]; (try simp (disch := omega) only [IntWalk.i64_in, IntWalk.u64_in, if_neg, if_pos])<;> rfl) (by simp only [go_sem] <;> rfl) ?_
          refine Run.op (by simp only [go_sem] <;> rfl) (by simp only [go_sem] <;> rfl) ?_
          refine Run.nil ?_
          refine Exec.cndS (by simp only [go_sem] <;> rfl) (fun hb58 => ?_) (fun hb58 => ?_)
          · skip
            have hki : k < i := by have := of_decide_eq_true hb58; omega
            obtain ⟨y, hy⟩ : ∃ y, r[k]? = some y := ⟨_, List.getElem?_eq_getElem (by omega)⟩
            have gx := Lt_x (p := p) (t := r) (r := q) (x := x0) (c := k) (by omega)
            have gy := Lt_y2 (p := p) (r := q) (x := x0) hy
            have gs := Lt_set2 (p := p) (r := q) (x := x0) hy
            have gl : (Lt p r q x0 k).length = n := by rw [Lt_len (by omega)]; omega
            have t1 : ((p.length + k : Nat) : Int).toNat = p.length + k := Int.toNat_natCast _
            have t2 : (((p.length + k : Nat) : Int) + 1).toNat = p.length + k + 1 := by omega
            have hne : p.length + k ≠ p.length + k + 1 := by omega
            refine Exec.skipS ?_
            refine Exec.blk ?_
            refine Exec.opk1 20 ?_
            refine OpenK.op (by simp only [go_sem, gx, gy, gl, t1, t2, List.getElem?_set_ne hne] <;> rfl) (by simp only [go_sem] <;> rfl) (by simp only [go_sem] <;> rfl) ?_
            refine OpenK.op (by simp only [go_sem, gx, gy, gl, t1, t2, List.getElem?_set_ne hne] <;> rfl) (by simp only [go_sem] <;> rfl) (by simp only [go_sem] <;> rfl) ?_
            refine OpenK.op (by simp only [go_sem, gx, gy, gl, t1, t2, List.getElem?_set_ne hne] <;> rfl) (by simp only [go_sem] <;> rfl) (by simp only [go_sem] <;> rfl) ?_
            refine OpenK.op (by simp only [go_sem, gx, gy, gl, t1, t2, List.getElem?_set_ne hne] <;> rfl) (by simp only [go_sem] <;> rfl) (by simp only [go_sem] <;> rfl) ?_
            refine OpenK.op (by simp only [go_sem, gx, gy, gl, t1, t2, List.getElem?_set_ne hne]; (try simp (disch := omega) only [IntWalk.i64_in, IntWalk.u64_in, if_neg, if_pos])<;> rfl) (by simp only [go_sem] <;> rfl) (by simp only [go_sem] <;> rfl) ?_
            refine OpenK.op (by simp only [go_sem, gx, gy, gl, t1, t2, List.getElem?_set_ne hne] <;> rfl) (by simp only [go_sem] <;> rfl) (by simp only [go_sem] <;> rfl) ?_
            refine OpenK.op (by simp only [go_sem, gx, gy, gl, t1, t2, List.getElem?_set_ne hne] <;> rfl) (by simp only [go_sem] <;> rfl) (by simp only [go_sem] <;> rfl) ?_
            refine OpenK.op (by simp only [go_sem, gx, gy, gl, t1, t2, List.getElem?_set_ne hne]; (try simp (disch := omega) only [IntWalk.i64_in, IntWalk.u64_in, if_neg, if_pos])<;> rfl) (by simp only [go_sem] <;> rfl) (by simp only [go_sem] <;> rfl) ?_
            refine OpenK.op (by simp only [go_sem, gx, gy, gl, t1, t2, List.getElem?_set_ne hne]; (try simp (disch := omega) only [if_pos]); (try simp only [go_sem, gx, gy, gl, t1, t2, List.getElem?_set_ne hne])<;> rfl) (by simp only [go_sem] <;> rfl) (by simp only [go_sem] <;> rfl) ?_
            refine OpenK.op (by simp only [go_sem, gx, gy, gl, t1, t2, List.getElem?_set_ne hne] <;> rfl) (by simp only [go_sem] <;> rfl) (by simp only [go_sem] <;> rfl) ?_
            refine OpenK.op (by simp only [go_sem, gx, gy, gl, t1, t2, List.getElem?_set_ne hne] <;> rfl) (by simp only [go_sem] <;> rfl) (by simp only [go_sem] <;> rfl) ?_
            refine OpenK.op (by simp only [go_sem, gx, gy, gl, t1, t2, List.getElem?_set_ne hne] <;> rfl) (by simp only [go_sem] <;> rfl) (by simp only [go_sem] <;> rfl) ?_
            refine OpenK.op (by simp only [go_sem, gx, gy, gl, t1, t2, List.getElem?_set_ne hne]; (try simp (disch := omega) only [if_pos]); (try simp only [go_sem, gx, gy, gl, t1, t2, List.getElem?_set_ne hne])<;> rfl) (by simp only [go_sem] <;> rfl) (by simp only [go_sem] <;> rfl) ?_
            refine OpenK.op (by simp only [go_sem, gx, gy, gl, t1, t2, List.getElem?_set_ne hne] <;> rfl) (by simp only [go_sem] <;> rfl) (by simp only [go_sem] <;> rfl) ?_
            refine OpenK.op (by simp only [go_sem, gx, gy, gl, t1, t2, List.getElem?_set_ne hne]; (try simp (disch := omega) only [if_pos]); (try simp only [go_sem, gx, gy, gl, t1, t2, List.getElem?_set_ne hne])<;> rfl) (by simp only [go_sem] <;> rfl) (by simp only [go_sem] <;> rfl) ?_
            refine OpenK.op (by simp only [go_sem, gx, gy, gl, t1, t2, List.getElem?_set_ne hne] <;> rfl) (by simp only [go_sem] <;> rfl) (by simp only [go_sem] <;> rfl) ?_
            refine OpenK.op (by simp only [go_sem, gx, gy, gl, t1, t2, List.getElem?_set_ne hne]; (try simp (disch := omega) only [if_pos]); (try simp only [go_sem, gx, gy, gl, t1, t2, List.getElem?_set_ne hne])<;> rfl) (by simp only [go_sem] <;> rfl) (by simp only [go_sem] <;> rfl) ?_
            refine OpenK.op (by simp only [go_sem, gx, gy, gl, t1, t2, List.getElem?_set_ne hne] <;> rfl) (by simp only [go_sem] <;> rfl) (by simp only [go_sem] <;> rfl) ?_
            refine OpenK.nil (OpenE.finT (by kernel_rfl) (by kernel_rfl) (by kernel_rfl) ?_)
            refine BlkK.nrm ?_
            refine Exec.reg1 ?_
            refine Run.op (by simp only [go_sem, gx, gy, gl, t1, t2, List.getElem?_set_ne hne] <;> rfl) (by simp only [go_sem] <;> rfl) ?_
            refine Run.op (by simp only [go_sem, gx, gy, gl, t1, t2, List.getElem?_set_ne hne]; (try simp (disch := omega) only [IntWalk.i64_in, IntWalk.u64_in, if_neg, if_pos])<;> rfl) (by simp only [go_sem] <;> rfl) ?_
            refine Run.op (by simp only [go_sem, gx, gy, gl, t1, t2, List.getElem?_set_ne hne] <;> rfl) (by simp only [go_sem] <;> rfl) ?_
            refine Run.nil ?_
            refine ForK.nxt ?_ ?_ ?_
            · omega
            · exact Ghost.kp [0, 10, 13] [900] (by simp only [go_sem, gx, gy, gl, t1, t2, List.getElem?_set_ne hne]; first | ((repeat' (first | with_reducible_and_instances rfl | refine st_eq ?_ ?_ ?_ | refine ret_eq ?_ | refine tup_eq ?_ | refine tm_eq ?_ ?_ | refine arr_eq ?_ | refine cells_eq ?_ | refine val_eq ?_ | refine ls_eq ?_ ?_ | refine own_eq ?_ ?_ | refine sl_eq ?_ | refine b_eq ?_ | (refine i_eq ?_; omega))); (all_goals (rw [← gs, List.map_set, List.map_set]; rfl))) | rfl)
            · trivial
          · skip
            have hki : k = i := by have := of_decide_eq_false hb58; omega
            subst hki
            refine Exec.exitS ?_
            refine ForK.ext ?_
            refine BlkK.hit ?_
            refine Exec.retS ?_
            exact Ends.fin [900] (rs := []) rfl (by simp only [go_sem, eN] <;> rfl) (by simp only [go_sem, eN] <;> first | rfl | ((repeat' (first | with_reducible_and_instances rfl | refine st_eq ?_ ?_ ?_ | refine ret_eq ?_ | refine tup_eq ?_ | refine tm_eq ?_ ?_ | refine arr_eq ?_ | refine cells_eq ?_ | refine val_eq ?_ | refine ls_eq ?_ ?_ | refine own_eq ?_ ?_ | refine sl_eq ?_ | refine b_eq ?_ | (refine i_eq ?_; omega))); done))
  · skip
    have h2l : 2 ≤ l.length := by
      have : ¬ ((p.length + l.length : Nat) : Int) - p.length = 1 := by simpa using hb28
      omega
    refine Exec.skipS ?_
    refine Exec.assocS ?_
    refine Exec.reg ?_
    iterate 2 (refine Run.op (by simp only [go_sem] <;> rfl) (by simp only [go_sem] <;> rfl) ?_)
    refine Run.op (by simp only [go_sem]; (try simp (disch := omega) only [IntWalk.i64_in, IntWalk.u64_in, if_neg, if_pos])<;> rfl) (by simp only [go_sem] <;> rfl) ?_
    refine Run.op (by simp only [go_sem] <;> rfl) (by simp only [go_sem] <;> rfl) ?_
    refine Run.nil ?_
    refine Exec.cndS (by simp only [go_sem] <;> rfl) (fun hb80 => ?_) (fun hb80 => ?_)
    · skip
      have hr1 : r.length = 1 := by
        have : ((p.length + l.length + r.length : Nat) : Int) - ((p.length + l.length : Nat) : Int) = 1 := by simpa using hb80
        omega
      obtain ⟨y0, rfl⟩ : ∃ y0, r = [y0] := by
        match r, hr1 with
        | [x], _ => exact ⟨x, rfl⟩
      have hsz : p.length + l.length + 1 + q.length = n := by have : [y0].length = 1 := rfl; omega
      refine Exec.assocS ?_
      refine Exec.reg ?_
      iterate 2 (refine Run.op (by simp only [go_sem] <;> rfl) (by simp only [go_sem] <;> rfl) ?_)
      refine Run.nil ?_
      refine Exec.assocS ?_
      refine Exec.reg ?_
      iterate 2 (refine Run.op (by simp only [go_sem] <;> rfl) (by simp only [go_sem] <;> rfl) ?_)
      refine Run.nil ?_
      refine Exec.assocS ?_
      refine Exec.blk ?_
      refine Exec.whl [0, 2, 4, 14, 15] [900] (fun (t : Nat × Nat) => [.slot 14 (.int ((p.length + t.1 : Nat) : Int)), .slot 15 (.int ((p.length + t.2 : Nat) : Int))]) (fun t => (t.1 ≤ t.2 ∧ t.2 ≤ l.length) ∧ (∀ k y, k < t.1 → l[k]? = some y → decide (c y0 y < 0) = false) ∧ (∀ k y, t.2 ≤ k → l[k]? = some y → decide (c y0 y < 0) = true)) (fun t => t.2 - t.1) ((0, l.length)) (fun t => by simp only [go_sem] <;> rfl) (by simp only [go_sem, Nat.add_zero] <;> rfl) ?_ (fun t hX => ?_)
      · exact ⟨⟨Nat.zero_le _, Nat.le_refl _⟩, fun k y hk => absurd hk (Nat.not_lt_zero _), fun k y hk hy => absurd (List.getElem?_eq_some_iff.1 hy).1 (by simp only at hk; omega)⟩
      · skip
        obtain ⟨⟨h12, h2r⟩, hlo, hhi⟩ := hX
        obtain ⟨i, j⟩ := t
        simp only at h12 h2r hlo hhi
        refine Exec.assocS ?_
        refine Exec.reg ?_
        iterate 3 (refine Run.op (by simp only [go_sem] <;> rfl) (by simp only [go_sem] <;> rfl) ?_)
        refine Run.nil ?_
        refine Exec.cndS (by simp only [go_sem] <;> rfl) (fun hb85 => ?_) (fun hb85 => ?_)
        · skip
          have hij : i < j := by have := of_decide_eq_true hb85; omega
          have hsum : ((p.length + i : Nat) : Int) + ((p.length + j : Nat) : Int) = ((p.length + i + (p.length + j) : Nat) : Int) := by omega
          have hsh := half_nat (p.length + i + (p.length + j))
          obtain ⟨h', hh⟩ : ∃ h', (p.length + i + (p.length + j)) / 2 = p.length + h' := ⟨(p.length + i + (p.length + j)) / 2 - (p.length), by omega⟩
          have hi' : i ≤ h' ∧ h' < j := by omega
          have t1 : ((p.length + h' : Nat) : Int).toNat = p.length + h' := Int.toNat_natCast _
          obtain ⟨y, hy⟩ : ∃ y, l[h']? = some y := ⟨_, List.getElem?_eq_getElem (by omega)⟩
          have gy : (p ++ (l ++ y0 :: q))[p.length + h']? = some y := get_l (r := [y0]) hy
          have gx : (p ++ (l ++ y0 :: q))[p.length + l.length]? = some y0 := get_r (c := 0) (r := [y0]) rfl
          have hd2 : p.length + (l.length + (q.length + 1)) = n := by omega
          refine Exec.skipS ?_
          refine Exec.blk1 ?_
          refine Exec.reg ?_
          iterate 2 (refine Run.op (by simp only [go_sem, hsum, hsh, hh, t1, gy, gx, hd2] <;> rfl) (by simp only [go_sem] <;> rfl) ?_)
          refine Run.op (by simp only [go_sem, hsum, hsh, hh, t1, gy, gx, hd2]; (try simp (disch := omega) only [IntWalk.i64_in, IntWalk.u64_in, if_neg, if_pos])<;> rfl) (by simp only [go_sem] <;> rfl) ?_
          refine Run.op (by simp only [go_sem, hsum, hsh, hh, t1, gy, gx, hd2]; (try simp (disch := omega) only [IntWalk.i64_in, IntWalk.u64_in, if_neg, if_pos])<;> rfl) (by simp only [go_sem] <;> rfl) ?_
          refine Run.op (by simp only [go_sem, hsum, hsh, hh, t1, gy, gx, hd2] <;> rfl) (by simp only [go_sem] <;> rfl) ?_
          refine Run.op (by simp only [go_sem, hsum, hsh, hh, t1, gy, gx, hd2]; (try simp (disch := omega) only [IntWalk.i64_in, IntWalk.u64_in, if_neg, if_pos])<;> rfl) (by simp only [go_sem] <;> rfl) ?_
          refine Run.op (by simp only [go_sem, hsum, hsh, hh, t1, gy, gx, hd2] <;> rfl) (by simp only [go_sem] <;> rfl) ?_
          refine Run.nil ?_
          refine Exec.opk 14 ?_
          refine OpenK.op (by simp only [go_sem, hsum, hsh, hh, t1, gy, gx, hd2] <;> rfl) (by simp only [go_sem] <;> rfl) (by simp only [go_sem] <;> rfl) ?_
          refine OpenK.op (by simp only [go_sem, hsum, hsh, hh, t1, gy, gx, hd2] <;> rfl) (by simp only [go_sem] <;> rfl) (by simp only [go_sem] <;> rfl) ?_
          refine OpenK.op (by simp only [go_sem, hsum, hsh, hh, t1, gy, gx, hd2] <;> rfl) (by simp only [go_sem] <;> rfl) (by simp only [go_sem] <;> rfl) ?_
          refine OpenK.op (by simp only [go_sem, hsum, hsh, hh, t1, gy, gx, hd2]; (try simp (disch := omega) only [if_pos]); (try simp only [go_sem, hsum, hsh, hh, t1, gy, gx, hd2])<;> rfl) (by simp only [go_sem] <;> rfl) (by simp only [go_sem] <;> rfl) ?_
          refine OpenK.op (by simp only [go_sem, hsum, hsh, hh, t1, gy, gx, hd2] <;> rfl) (by simp only [go_sem] <;> rfl) (by simp only [go_sem] <;> rfl) ?_
          refine OpenK.op (by simp only [go_sem, hsum, hsh, hh, t1, gy, gx, hd2] <;> rfl) (by simp only [go_sem] <;> rfl) (by simp only [go_sem] <;> rfl) ?_
          refine OpenK.op (by simp only [go_sem, hsum, hsh, hh, t1, gy, gx, hd2] <;> rfl) (by simp only [go_sem] <;> rfl) (by simp only [go_sem] <;> rfl) ?_
          refine OpenK.op (by simp only [go_sem, hsum, hsh, hh, t1, gy, gx, hd2]; (try simp (disch := omega) only [if_pos]); (try simp only [go_sem, hsum, hsh, hh, t1, gy, gx, hd2])<;> rfl) (by simp only [go_sem] <;> rfl) (by simp only [go_sem] <;> rfl) ?_
          refine OpenK.op (by simp only [go_sem, hsum, hsh, hh, t1, gy, gx, hd2] <;> rfl) (by simp only [go_sem] <;> rfl) (by simp only [go_sem] <;> rfl) ?_
          refine OpenK.calw (by simp only [go_sem] <;> rfl) (hc y0 y) (by assumption) (by simp only [go_sem, hsum, hsh, hh, t1, gy, gx, hd2] <;> rfl) (by simp only [go_sem, hsum, hsh, hh, t1, gy, gx, hd2] <;> rfl) (by exact ⟨by first | exact WkR.pure rfl | exact WkR.nil _ | exact WkR.int (by omega), by first | exact WkR.pure rfl | exact WkR.nil _ | exact WkR.int (by omega), wkr_caps _ _ _⟩) (fr0) (by simp only [go_sem, hsum, hsh, hh, t1, gy, gx, hd2] <;> rfl) (by simp only [go_sem] <;> rfl) (by simp only [go_sem] <;> rfl) ?_
          refine OpenK.op (by simp only [go_sem, hsum, hsh, hh, t1, gy, gx, hd2] <;> rfl) (by simp only [go_sem] <;> rfl) (by simp only [go_sem] <;> rfl) ?_
          refine OpenK.op (by simp only [go_sem, hsum, hsh, hh, t1, gy, gx, hd2] <;> rfl) (by simp only [go_sem] <;> rfl) (by simp only [go_sem] <;> rfl) ?_
          refine OpenK.nil (OpenE.fin (by decide +kernel) (by decide +kernel) ?_)
          refine Exec.cnd (by simp only [go_sem, hsum, hsh, hh, t1, gy, gx, hd2] <;> rfl) (fun hb103 => ?_) (fun hb103 => ?_)
          · skip
            have hlt : decide (c y0 y < 0) = false := by simpa using hb103
            refine Exec.reg1 ?_
            refine Run.op (by simp only [go_sem, hsum, hsh, hh, t1, gy, gx, hd2] <;> rfl) (by simp only [go_sem] <;> rfl) ?_
            refine Run.op (by simp only [go_sem, hsum, hsh, hh, t1, gy, gx, hd2]; (try simp (disch := omega) only [IntWalk.i64_in, IntWalk.u64_in, if_neg, if_pos])<;> rfl) (by simp only [go_sem] <;> rfl) ?_
            refine Run.op (by simp only [go_sem, hsum, hsh, hh, t1, gy, gx, hd2] <;> rfl) (by simp only [go_sem] <;> rfl) ?_
            refine Run.nil ?_
            refine Blk1K.nrm ?_
            refine WhlK.nxt ((h' + 1, j)) ?_ ?_ ?_
            · simp only; omega
            · exact ⟨⟨by simp only; omega, by simp only; omega⟩, ino_lo2 hw hl hy hlt, hhi⟩
            · exact Ghost.kp [0, 2, 4, 14, 15] [900] (by simp only [go_sem, hsum, hsh, hh, t1, gy, gx, hd2]; first | ((repeat' (first | with_reducible_and_instances rfl | refine st_eq ?_ ?_ ?_ | refine ret_eq ?_ | refine tup_eq ?_ | refine tm_eq ?_ ?_ | refine arr_eq ?_ | refine cells_eq ?_ | refine val_eq ?_ | refine ls_eq ?_ ?_ | refine own_eq ?_ ?_ | refine sl_eq ?_ | refine b_eq ?_ | (refine i_eq ?_; omega))); (all_goals (first | rfl | omega))) | rfl)
          · skip
            have hlt : decide (c y0 y < 0) = true := by simpa using hb103
            refine Exec.reg1 ?_
            iterate 2 (refine Run.op (by simp only [go_sem, hsum, hsh, hh, t1, gy, gx, hd2] <;> rfl) (by simp only [go_sem] <;> rfl) ?_)
            refine Run.nil ?_
            refine Blk1K.nrm ?_
            refine WhlK.nxt ((i, h')) ?_ ?_ ?_
            · simp only; omega
            · exact ⟨⟨by simp only; omega, by simp only; omega⟩, hlo, ino_hi2 hw hl hy hlt⟩
            · exact Ghost.kp [0, 2, 4, 14, 15] [900] (by simp only [go_sem, hsum, hsh, hh, t1, gy, gx, hd2]; first | ((repeat' (first | with_reducible_and_instances rfl | refine st_eq ?_ ?_ ?_ | refine ret_eq ?_ | refine tup_eq ?_ | refine tm_eq ?_ ?_ | refine arr_eq ?_ | refine cells_eq ?_ | refine val_eq ?_ | refine ls_eq ?_ ?_ | refine own_eq ?_ ?_ | refine sl_eq ?_ | refine b_eq ?_ | (refine i_eq ?_; omega))); done) | rfl)
        · skip
          have hij : i = j := by have := of_decide_eq_false hb85; omega
          subst hij
          have hmg := mg_one_right (lt := (fun x y => decide (c x y < 0))) hlo hhi
          have e0 : Lt p l q y0 l.length = p ++ (l ++ ([y0] ++ q)) := by simp [Lt]
          have eN : Lt p l q y0 i = p ++ (mg (fun x y => decide (c x y < 0)) l [y0] ++ q) := by rw [hmg]; simp [Lt]
          refine Exec.exitS ?_
          refine WhlK.ext ?_
          refine BlkK.hit ?_
          refine Exec.assocS ?_
          refine Exec.assocS ?_
          refine Exec.reg ?_
          iterate 2 (refine Run.op (by simp only [go_sem] <;> rfl) (by simp only [go_sem] <;> rfl) ?_)
          refine Run.nil ?_
          refine Exec.blk ?_
          refine Exec.forA [0, 14, 17] [900] (l.length - i) (fun k => [.slot 17 (.int (((p.length + l.length : Nat) : Int) - (k : Int))), .obj 900 (.arr 77 4 ((Lt p l q y0 (l.length - k)).map encNum))]) (fun _ => True) (fun k => by simp only [go_sem] <;> rfl) (by simp only [go_sem, e0, Nat.sub_zero, Int.natCast_zero, Int.sub_zero] <;> rfl) ?_ (fun k hk hX => ?_)
          · trivial
          · skip
            refine Exec.assocS ?_
            refine Exec.reg ?_
            iterate 3 (refine Run.op (by simp only [go_sem] <;> rfl) (by simp only [go_sem] <;> rfl) ?_)
            refine Run.nil ?_
            refine Exec.cndS (by simp only [go_sem] <;> rfl) (fun hb110 => ?_) (fun hb110 => ?_)
            · skip
              have hki : k < l.length - i := by have := of_decide_eq_true hb110; omega
              obtain ⟨c1, hc1⟩ : ∃ c1, l.length - k = c1 + 1 := ⟨l.length - k - 1, by omega⟩
              have hc2 : l.length - (k + 1) = c1 := by omega
              obtain ⟨y, hy⟩ : ∃ y, l[c1]? = some y := ⟨_, List.getElem?_eq_getElem (by omega)⟩
              have gx := Lt_x (p := p) (t := l) (r := q) (x := y0) (c := c1 + 1) (by omega)
              have gy := Lt_y (p := p) (r := q) (x := y0) hy
              have gs := Lt_set (p := p) (r := q) (x := y0) hy
              have gl : (Lt p l q y0 (c1 + 1)).length = n := by rw [Lt_len (by omega)]; omega
              have t1 : (((p.length + l.length : Nat) : Int) - (k : Int)).toNat = p.length + (c1 + 1) := by omega
              have t2 : (((p.length + l.length : Nat) : Int) - (k : Int) - 1).toNat = p.length + c1 := by omega
              have hne : p.length + (c1 + 1) ≠ p.length + c1 := by omega
              refine Exec.skipS ?_
              refine Exec.blk ?_
              refine Exec.opk1 20 ?_
              refine OpenK.op (by simp only [go_sem, hc1, hc2, gx, gy, gl, t1, t2, List.getElem?_set_ne hne] <;> rfl) (by simp only [go_sem] <;> rfl) (by simp only [go_sem] <;> rfl) ?_
              refine OpenK.op (by simp only [go_sem, hc1, hc2, gx, gy, gl, t1, t2, List.getElem?_set_ne hne] <;> rfl) (by simp only [go_sem] <;> rfl) (by simp only [go_sem] <;> rfl) ?_
              refine OpenK.op (by simp only [go_sem, hc1, hc2, gx, gy, gl, t1, t2, List.getElem?_set_ne hne] <;> rfl) (by simp only [go_sem] <;> rfl) (by simp only [go_sem] <;> rfl) ?_
              refine OpenK.op (by simp only [go_sem, hc1, hc2, gx, gy, gl, t1, t2, List.getElem?_set_ne hne] <;> rfl) (by simp only [go_sem] <;> rfl) (by simp only [go_sem] <;> rfl) ?_
              refine OpenK.op (by simp only [go_sem, hc1, hc2, gx, gy, gl, t1, t2, List.getElem?_set_ne hne]; (try simp (disch := omega) only [IntWalk.i64_in, IntWalk.u64_in, if_neg, if_pos])<;> rfl) (by simp only [go_sem] <;> rfl) (by simp only [go_sem] <;> rfl) ?_
              refine OpenK.op (by simp only [go_sem, hc1, hc2, gx, gy, gl, t1, t2, List.getElem?_set_ne hne] <;> rfl) (by simp only [go_sem] <;> rfl) (by simp only [go_sem] <;> rfl) ?_
              refine OpenK.op (by simp only [go_sem, hc1, hc2, gx, gy, gl, t1, t2, List.getElem?_set_ne hne] <;> rfl) (by simp only [go_sem] <;> rfl) (by simp only [go_sem] <;> rfl) ?_
              refine OpenK.op (by simp only [go_sem, hc1, hc2, gx, gy, gl, t1, t2, List.getElem?_set_ne hne]; (try simp (disch := omega) only [IntWalk.i64_in, IntWalk.u64_in, if_neg, if_pos])<;> rfl) (by simp only [go_sem] <;> rfl) (by simp only [go_sem] <;> rfl) ?_
              refine OpenK.op (by simp only [go_sem, hc1, hc2, gx, gy, gl, t1, t2, List.getElem?_set_ne hne]; (try simp (disch := omega) only [if_pos]); (try simp only [go_sem, hc1, hc2, gx, gy, gl, t1, t2, List.getElem?_set_ne hne])<;> rfl) (by simp only [go_sem] <;> rfl) (by simp only [go_sem] <;> rfl) ?_
              refine OpenK.op (by simp only [go_sem, hc1, hc2, gx, gy, gl, t1, t2, List.getElem?_set_ne hne] <;> rfl) (by simp only [go_sem] <;> rfl) (by simp only [go_sem] <;> rfl) ?_
              refine OpenK.op (by simp only [go_sem, hc1, hc2, gx, gy, gl, t1, t2, List.getElem?_set_ne hne] <;> rfl) (by simp only [go_sem] <;> rfl) (by simp only [go_sem] <;> rfl) ?_
              refine OpenK.op (by simp only [go_sem, hc1, hc2, gx, gy, gl, t1, t2, List.getElem?_set_ne hne] <;> rfl) (by simp only [go_sem] <;> rfl) (by simp only [go_sem] <;> rfl) ?_
              refine OpenK.op (by simp only [go_sem, hc1, hc2, gx, gy, gl, t1, t2, List.getElem?_set_ne hne]; (try simp (disch := omega) only [if_pos]); (try simp only [go_sem, hc1, hc2, gx, gy, gl, t1, t2, List.getElem?_set_ne hne])<;> rfl) (by simp only [go_sem] <;> rfl) (by simp only [go_sem] <;> rfl) ?_
              refine OpenK.op (by simp only [go_sem, hc1, hc2, gx, gy, gl, t1, t2, List.getElem?_set_ne hne] <;> rfl) (by simp only [go_sem] <;> rfl) (by simp only [go_sem] <;> rfl) ?_
              refine OpenK.op (by simp only [go_sem, hc1, hc2, gx, gy, gl, t1, t2, List.getElem?_set_ne hne]; (try simp (disch := omega) only [if_pos]); (try simp only [go_sem, hc1, hc2, gx, gy, gl, t1, t2, List.getElem?_set_ne hne])<;> rfl) (by simp only [go_sem] <;> rfl) (by simp only [go_sem] <;> rfl) ?_
              refine OpenK.op (by simp only [go_sem, hc1, hc2, gx, gy, gl, t1, t2, List.getElem?_set_ne hne] <;> rfl) (by simp only [go_sem] <;> rfl) (by simp only [go_sem] <;> rfl) ?_
              refine OpenK.op (by simp only [go_sem, hc1, hc2, gx, gy, gl, t1, t2, List.getElem?_set_ne hne]; (try simp (disch := omega) only [if_pos]); (try simp only [go_sem, hc1, hc2, gx, gy, gl, t1, t2, List.getElem?_set_ne hne])<;> rfl) (by simp only [go_sem] <;> rfl) (by simp only [go_sem] <;> rfl) ?_
              refine OpenK.op (by simp only [go_sem, hc1, hc2, gx, gy, gl, t1, t2, List.getElem?_set_ne hne] <;> rfl) (by simp only [go_sem] <;> rfl) (by simp only [go_sem] <;> rfl) ?_
              refine OpenK.nil (OpenE.finT (by kernel_rfl) (by kernel_rfl) (by kernel_rfl) ?_)
              refine BlkK.nrm ?_
              refine Exec.reg1 ?_
              refine Run.op (by simp only [go_sem, hc1, hc2, gx, gy, gl, t1, t2, List.getElem?_set_ne hne] <;> rfl) (by simp only [go_sem] <;> rfl) ?_
              refine Run.op (by simp only [go_sem, hc1, hc2, gx, gy, gl, t1, t2, List.getElem?_set_ne hne]; (try simp (disch := omega) only [IntWalk.i64_in, IntWalk.u64_in, if_neg, if_pos])<;> rfl) (by simp only [go_sem] <;> rfl) ?_
              refine Run.op (by simp only [go_sem, hc1, hc2, gx, gy, gl, t1, t2, List.getElem?_set_ne hne] <;> rfl) (by simp only [go_sem] <;> rfl) ?_
              refine Run.nil ?_
              refine ForK.nxt ?_ ?_ ?_
              · omega
              · exact Ghost.kp [0, 14, 17] [900] (by simp only [go_sem, hc1, hc2, gx, gy, gl, t1, t2, List.getElem?_set_ne hne]; first | ((repeat' (first | with_reducible_and_instances rfl | refine st_eq ?_ ?_ ?_ | refine ret_eq ?_ | refine tup_eq ?_ | refine tm_eq ?_ ?_ | refine arr_eq ?_ | refine cells_eq ?_ | refine val_eq ?_ | refine ls_eq ?_ ?_ | refine own_eq ?_ ?_ | refine sl_eq ?_ | refine b_eq ?_ | (refine i_eq ?_; omega))); (all_goals (rw [← gs, List.map_set, List.map_set]; rfl))) | rfl)
              · trivial
            · skip
              have hki : l.length - k = i := by have := of_decide_eq_false hb110; omega
              refine Exec.exitS ?_
              refine ForK.ext ?_
              refine BlkK.hit ?_
              refine Exec.retS ?_
              exact Ends.fin [900] (rs := []) rfl (by simp only [go_sem, hki, eN] <;> rfl) (by simp only [go_sem, hki, eN] <;> first | rfl | ((repeat' (first | with_reducible_and_instances rfl | refine st_eq ?_ ?_ ?_ | refine ret_eq ?_ | refine tup_eq ?_ | refine tm_eq ?_ ?_ | refine arr_eq ?_ | refine cells_eq ?_ | refine val_eq ?_ | refine ls_eq ?_ ?_ | refine own_eq ?_ ?_ | refine sl_eq ?_ | refine b_eq ?_ | (refine i_eq ?_; omega))); done))
    · skip
      have h2r : 2 ≤ r.length := by
        have : ¬ ((p.length + l.length + r.length : Nat) : Int) - ((p.length + l.length : Nat) : Int) = 1 := by simpa using hb80
        omega
      have hsum : (p.length : Int) + ((p.length + l.length + r.length : Nat) : Int) = ((p.length + (p.length + l.length + r.length) : Nat) : Int) := by omega
      have hsh := half_nat (p.length + (p.length + l.length + r.length))
      obtain ⟨mid, hmid⟩ : ∃ mid, (p.length + (p.length + l.length + r.length)) / 2 = mid := ⟨_, rfl⟩
      refine Exec.skipS ?_
      refine Exec.reg ?_
      iterate 2 (refine Run.op (by simp only [go_sem, hsum, hsh, hmid] <;> rfl) (by simp only [go_sem] <;> rfl) ?_)
      refine Run.op (by simp only [go_sem, hsum, hsh, hmid]; (try simp (disch := omega) only [IntWalk.i64_in, IntWalk.u64_in, if_neg, if_pos])<;> rfl) (by simp only [go_sem] <;> rfl) ?_
      refine Run.op (by simp only [go_sem, hsum, hsh, hmid]; (try simp (disch := omega) only [IntWalk.i64_in, IntWalk.u64_in, if_neg, if_pos])<;> rfl) (by simp only [go_sem] <;> rfl) ?_
      refine Run.op (by simp only [go_sem, hsum, hsh, hmid] <;> rfl) (by simp only [go_sem] <;> rfl) ?_
      refine Run.op (by simp only [go_sem, hsum, hsh, hmid]; (try simp (disch := omega) only [IntWalk.i64_in, IntWalk.u64_in, if_neg, if_pos])<;> rfl) (by simp only [go_sem] <;> rfl) ?_
      refine Run.op (by simp only [go_sem, hsum, hsh, hmid] <;> rfl) (by simp only [go_sem] <;> rfl) ?_
      refine Run.nil ?_
      refine Exec.reg ?_
      iterate 2 (refine Run.op (by simp only [go_sem, hsum, hsh, hmid] <;> rfl) (by simp only [go_sem] <;> rfl) ?_)
      refine Run.op (by simp only [go_sem, hsum, hsh, hmid]; (try simp (disch := omega) only [IntWalk.i64_in, IntWalk.u64_in, if_neg, if_pos])<;> rfl) (by simp only [go_sem] <;> rfl) ?_
      refine Run.op (by simp only [go_sem, hsum, hsh, hmid] <;> rfl) (by simp only [go_sem] <;> rfl) ?_
      refine Run.nil ?_
      refine Exec.reg ?_
      iterate 2 (refine Run.op (by simp only [go_sem, hsum, hsh, hmid] <;> rfl) (by simp only [go_sem] <;> rfl) ?_)
      refine Run.nil ?_
      refine Exec.assocS ?_
      refine Exec.reg ?_
      iterate 3 (refine Run.op (by simp only [go_sem, hsum, hsh, hmid] <;> rfl) (by simp only [go_sem] <;> rfl) ?_)
      refine Run.nil ?_
      refine Exec.joinA [0, 1, 2, 3, 4, 18, 19, 20, 21] [900] (fun (t : Nat × Nat) => [.slot 20 (.int (t.1 : Int)), .slot 21 (.int (t.2 : Int))]) (fun (t : Nat × Nat) => SymB p.length (p.length + l.length) (p.length + l.length + r.length) mid t.1 t.2) (fun t => by simp only [go_sem] <;> rfl) ?_ (fun t hj => ?_)
      · skip
        refine Exec.cnd (by simp only [go_sem, hsum, hsh, hmid] <;> rfl) (fun hb140 => ?_) (fun hb140 => ?_)
        · skip
          have hgt : mid < p.length + l.length := by have := of_decide_eq_true hb140; omega
          refine Exec.reg ?_
          iterate 2 (refine Run.op (by simp only [go_sem, hsum, hsh, hmid] <;> rfl) (by simp only [go_sem] <;> rfl) ?_)
          refine Run.op (by simp only [go_sem, hsum, hsh, hmid]; (try simp (disch := omega) only [IntWalk.i64_in, IntWalk.u64_in, if_neg, if_pos])<;> rfl) (by simp only [go_sem] <;> rfl) ?_
          refine Run.op (by simp only [go_sem, hsum, hsh, hmid] <;> rfl) (by simp only [go_sem] <;> rfl) ?_
          refine Run.nil ?_
          refine Exec.reg1 ?_
          iterate 2 (refine Run.op (by simp only [go_sem, hsum, hsh, hmid] <;> rfl) (by simp only [go_sem] <;> rfl) ?_)
          refine Run.nil ?_
          refine JoinK.nrm ((mid + (p.length + l.length) - (p.length + l.length + r.length), mid)) ?_ ?_
          · exact .inl ⟨hgt, rfl, rfl⟩
          · exact Ghost.kp [0, 1, 2, 3, 4, 18, 19, 20, 21] [900] (by simp only [go_sem, hsum, hsh, hmid]; first | ((repeat' (first | with_reducible_and_instances rfl | refine st_eq ?_ ?_ ?_ | refine ret_eq ?_ | refine tup_eq ?_ | refine tm_eq ?_ ?_ | refine arr_eq ?_ | refine cells_eq ?_ | refine val_eq ?_ | refine ls_eq ?_ ?_ | refine own_eq ?_ ?_ | refine sl_eq ?_ | refine b_eq ?_ | (refine i_eq ?_; omega))); done) | rfl)
        · skip
          have hgt : p.length + l.length ≤ mid := by have := of_decide_eq_false hb140; omega
          refine Exec.reg ?_
          iterate 2 (refine Run.op (by simp only [go_sem, hsum, hsh, hmid] <;> rfl) (by simp only [go_sem] <;> rfl) ?_)
          refine Run.nil ?_
          refine Exec.reg1 ?_
          iterate 2 (refine Run.op (by simp only [go_sem, hsum, hsh, hmid] <;> rfl) (by simp only [go_sem] <;> rfl) ?_)
          refine Run.nil ?_
          refine JoinK.nrm ((p.length, p.length + l.length)) ?_ ?_
          · exact .inr ⟨hgt, rfl, rfl⟩
          · exact Ghost.kp [0, 1, 2, 3, 4, 18, 19, 20, 21] [900] (by simp only [go_sem, hsum, hsh, hmid]; first | ((repeat' (first | with_reducible_and_instances rfl | refine st_eq ?_ ?_ ?_ | refine ret_eq ?_ | refine tup_eq ?_ | refine tm_eq ?_ ?_ | refine arr_eq ?_ | refine cells_eq ?_ | refine val_eq ?_ | refine ls_eq ?_ ?_ | refine own_eq ?_ ?_ | refine sl_eq ?_ | refine b_eq ?_ | (refine i_eq ?_; omega))); done) | rfl)
      · skip
        obtain ⟨s0, r0⟩ := t
        simp only at hj
        have hj2 := hj
        unfold SymB at hj2
        refine Exec.reg ?_
        refine Run.op (by simp only [go_sem, hsum, hsh, hmid] <;> rfl) (by simp only [go_sem] <;> rfl) ?_
        refine Run.op (by simp only [go_sem, hsum, hsh, hmid]; (try simp (disch := omega) only [IntWalk.i64_in, IntWalk.u64_in, if_neg, if_pos])<;> rfl) (by simp only [go_sem] <;> rfl) ?_
        refine Run.op (by simp only [go_sem, hsum, hsh, hmid] <;> rfl) (by simp only [go_sem] <;> rfl) ?_
        refine Run.nil ?_
        refine Exec.blk ?_
        refine Exec.whl [0, 1, 2, 3, 4, 18, 19, 20, 21, 22] [900] (fun (t : Nat × Nat) => [.slot 20 (.int (t.1 : Int)), .slot 21 (.int (t.2 : Int))]) (fun t => (s0 ≤ t.1 ∧ t.1 ≤ t.2 ∧ t.2 ≤ r0) ∧ (∀ c1 x y, s0 ≤ c1 → c1 < t.1 → l[c1 - p.length]? = some x → r[mid - 1 - c1]? = some y → decide (c y x < 0) = false) ∧ (∀ c1 x y, t.2 ≤ c1 → c1 < r0 → l[c1 - p.length]? = some x → r[mid - 1 - c1]? = some y → decide (c y x < 0) = true)) (fun t => t.2 - t.1) ((s0, r0)) (fun t => by simp only [go_sem] <;> rfl) (by simp only [go_sem, hsum, hsh, hmid] <;> rfl) ?_ (fun t hX => ?_)
        · exact ⟨⟨Nat.le_refl _, by simp only; omega, Nat.le_refl _⟩, fun c1 x y h1 h2 => absurd h2 (by simp only; omega), fun c1 x y h1 h2 => absurd h2 (by simp only at h1; omega)⟩
        · skip
          obtain ⟨⟨h01, h12, h2j⟩, hlo, hhi⟩ := hX
          obtain ⟨i, j⟩ := t
          simp only at h01 h12 h2j hlo hhi
          refine Exec.assocS ?_
          refine Exec.reg ?_
          iterate 3 (refine Run.op (by simp only [go_sem, hsum, hsh, hmid] <;> rfl) (by simp only [go_sem] <;> rfl) ?_)
          refine Run.nil ?_
          refine Exec.cndS (by simp only [go_sem, hsum, hsh, hmid] <;> rfl) (fun hb151 => ?_) (fun hb151 => ?_)
          · skip
            have hij : i < j := by have := of_decide_eq_true hb151; omega
            have hsum : ((i : Nat) : Int) + ((j : Nat) : Int) = ((i + j : Nat) : Int) := by omega
            have hsh := half_nat (i + j)
            obtain ⟨cc, hh⟩ : ∃ cc, (i + j) / 2 = cc := ⟨_, rfl⟩
            have hcc : i ≤ cc ∧ cc < j := by omega
            have hb1 : p.length ≤ cc ∧ cc < p.length + l.length ∧ cc < mid ∧ mid - 1 - cc < r.length := by omega
            obtain ⟨x, hx⟩ : ∃ x, l[cc - p.length]? = some x := ⟨_, List.getElem?_eq_getElem (by omega)⟩
            obtain ⟨y, hy⟩ : ∃ y, r[mid - 1 - cc]? = some y := ⟨_, List.getElem?_eq_getElem (by omega)⟩
            have gx : (p ++ (l ++ (r ++ q)))[cc]? = some x := by have := get_l (p := p) (r := r) (q := q) hx; rw [show p.length + (cc - p.length) = cc by omega] at this; exact this
            have gy := get_r (p := p) (l := l) (q := q) hy
            have t1 : ((cc : Nat) : Int).toNat = cc := Int.toNat_natCast _
            have t2 : ((mid : Int) + ((p.length + l.length : Nat) : Int) - 1 - (cc : Int)).toNat = p.length + l.length + (mid - 1 - cc) := by omega
            refine Exec.skipS ?_
            refine Exec.blk1 ?_
            refine Exec.reg ?_
            iterate 2 (refine Run.op (by simp only [go_sem, hsum, hsh, hh, t1, t2, gy, gx, hdl] <;> rfl) (by simp only [go_sem] <;> rfl) ?_)
            refine Run.op (by simp only [go_sem, hsum, hsh, hh, t1, t2, gy, gx, hdl]; (try simp (disch := omega) only [IntWalk.i64_in, IntWalk.u64_in, if_neg, if_pos])<;> rfl) (by simp only [go_sem] <;> rfl) ?_
            refine Run.op (by simp only [go_sem, hsum, hsh, hh, t1, t2, gy, gx, hdl]; (try simp (disch := omega) only [IntWalk.i64_in, IntWalk.u64_in, if_neg, if_pos])<;> rfl) (by simp only [go_sem] <;> rfl) ?_
            refine Run.op (by simp only [go_sem, hsum, hsh, hh, t1, t2, gy, gx, hdl] <;> rfl) (by simp only [go_sem] <;> rfl) ?_
            refine Run.op (by simp only [go_sem, hsum, hsh, hh, t1, t2, gy, gx, hdl]; (try simp (disch := omega) only [IntWalk.i64_in, IntWalk.u64_in, if_neg, if_pos])<;> rfl) (by simp only [go_sem] <;> rfl) ?_
            refine Run.op (by simp only [go_sem, hsum, hsh, hh, t1, t2, gy, gx, hdl] <;> rfl) (by simp only [go_sem] <;> rfl) ?_
            refine Run.nil ?_
            refine Exec.opk 16 ?_
            refine OpenK.op (by simp only [go_sem, hsum, hsh, hh, t1, t2, gy, gx, hdl] <;> rfl) (by simp only [go_sem] <;> rfl) (by simp only [go_sem] <;> rfl) ?_
            refine OpenK.op (by simp only [go_sem, hsum, hsh, hh, t1, t2, gy, gx, hdl] <;> rfl) (by simp only [go_sem] <;> rfl) (by simp only [go_sem] <;> rfl) ?_
            refine OpenK.op (by simp only [go_sem, hsum, hsh, hh, t1, t2, gy, gx, hdl] <;> rfl) (by simp only [go_sem] <;> rfl) (by simp only [go_sem] <;> rfl) ?_
            refine OpenK.op (by simp only [go_sem, hsum, hsh, hh, t1, t2, gy, gx, hdl] <;> rfl) (by simp only [go_sem] <;> rfl) (by simp only [go_sem] <;> rfl) ?_
            refine OpenK.op (by simp only [go_sem, hsum, hsh, hh, t1, t2, gy, gx, hdl]; (try simp (disch := omega) only [IntWalk.i64_in, IntWalk.u64_in, if_neg, if_pos])<;> rfl) (by simp only [go_sem] <;> rfl) (by simp only [go_sem] <;> rfl) ?_
            refine OpenK.op (by simp only [go_sem, hsum, hsh, hh, t1, t2, gy, gx, hdl]; (try simp (disch := omega) only [if_pos]); (try simp only [go_sem, hsum, hsh, hh, t1, t2, gy, gx, hdl])<;> rfl) (by simp only [go_sem] <;> rfl) (by simp only [go_sem] <;> rfl) ?_
            refine OpenK.op (by simp only [go_sem, hsum, hsh, hh, t1, t2, gy, gx, hdl] <;> rfl) (by simp only [go_sem] <;> rfl) (by simp only [go_sem] <;> rfl) ?_
            refine OpenK.op (by simp only [go_sem, hsum, hsh, hh, t1, t2, gy, gx, hdl] <;> rfl) (by simp only [go_sem] <;> rfl) (by simp only [go_sem] <;> rfl) ?_
            refine OpenK.op (by simp only [go_sem, hsum, hsh, hh, t1, t2, gy, gx, hdl] <;> rfl) (by simp only [go_sem] <;> rfl) (by simp only [go_sem] <;> rfl) ?_
            refine OpenK.op (by simp only [go_sem, hsum, hsh, hh, t1, t2, gy, gx, hdl]; (try simp (disch := omega) only [if_pos]); (try simp only [go_sem, hsum, hsh, hh, t1, t2, gy, gx, hdl])<;> rfl) (by simp only [go_sem] <;> rfl) (by simp only [go_sem] <;> rfl) ?_
            refine OpenK.op (by simp only [go_sem, hsum, hsh, hh, t1, t2, gy, gx, hdl] <;> rfl) (by simp only [go_sem] <;> rfl) (by simp only [go_sem] <;> rfl) ?_
            refine OpenK.calw (by simp only [go_sem] <;> rfl) (hc y x) (by assumption) (by simp only [go_sem, hsum, hsh, hh, t1, t2, gy, gx, hdl] <;> rfl) (by simp only [go_sem, hsum, hsh, hh, t1, t2, gy, gx, hdl] <;> rfl) (by exact ⟨by first | exact WkR.pure rfl | exact WkR.nil _ | exact WkR.int (by omega), by first | exact WkR.pure rfl | exact WkR.nil _ | exact WkR.int (by omega), wkr_caps _ _ _⟩) (fr0) (by simp only [go_sem, hsum, hsh, hh, t1, t2, gy, gx, hdl] <;> rfl) (by simp only [go_sem] <;> rfl) (by simp only [go_sem] <;> rfl) ?_
            refine OpenK.op (by simp only [go_sem, hsum, hsh, hh, t1, t2, gy, gx, hdl] <;> rfl) (by simp only [go_sem] <;> rfl) (by simp only [go_sem] <;> rfl) ?_
            refine OpenK.op (by simp only [go_sem, hsum, hsh, hh, t1, t2, gy, gx, hdl] <;> rfl) (by simp only [go_sem] <;> rfl) (by simp only [go_sem] <;> rfl) ?_
            refine OpenK.nil (OpenE.fin (by decide +kernel) (by decide +kernel) ?_)
            refine Exec.cnd (by simp only [go_sem, hsum, hsh, hh, t1, t2, gy, gx, hdl] <;> rfl) (fun hb171 => ?_) (fun hb171 => ?_)
            · skip
              have hlt : decide (c y x < 0) = false := by simpa using hb171
              have hsl := sym_lo hw hl hr hb1.1 hb1.2.2.1 hx hy hlt
              refine Exec.reg1 ?_
              refine Run.op (by simp only [go_sem, hsum, hsh, hh, t1, t2, gy, gx, hdl] <;> rfl) (by simp only [go_sem] <;> rfl) ?_
              refine Run.op (by simp only [go_sem, hsum, hsh, hh, t1, t2, gy, gx, hdl]; (try simp (disch := omega) only [IntWalk.i64_in, IntWalk.u64_in, if_neg, if_pos])<;> rfl) (by simp only [go_sem] <;> rfl) ?_
              refine Run.op (by simp only [go_sem, hsum, hsh, hh, t1, t2, gy, gx, hdl] <;> rfl) (by simp only [go_sem] <;> rfl) ?_
              refine Run.nil ?_
              refine Blk1K.nrm ?_
              refine WhlK.nxt ((cc + 1, j)) ?_ ?_ ?_
              · simp only; omega
              · exact ⟨⟨by simp only; omega, by simp only; omega, by simp only; omega⟩, fun c1 x y h1 h2 => hsl c1 x y (by omega) h2, hhi⟩
              · exact Ghost.kp [0, 1, 2, 3, 4, 18, 19, 20, 21, 22] [900] (by simp only [go_sem, hsum, hsh, hh, t1, t2, gy, gx, hdl]; first | ((repeat' (first | with_reducible_and_instances rfl | refine st_eq ?_ ?_ ?_ | refine ret_eq ?_ | refine tup_eq ?_ | refine tm_eq ?_ ?_ | refine arr_eq ?_ | refine cells_eq ?_ | refine val_eq ?_ | refine ls_eq ?_ ?_ | refine own_eq ?_ ?_ | refine sl_eq ?_ | refine b_eq ?_ | (refine i_eq ?_; omega))); (all_goals (first | rfl | omega))) | rfl)
            · skip
              have hlt : decide (c y x < 0) = true := by simpa using hb171
              have hsl := sym_hi hw hl hr hb1.1 hb1.2.2.1 hx hy hlt
              refine Exec.reg1 ?_
              iterate 2 (refine Run.op (by simp only [go_sem, hsum, hsh, hh, t1, t2, gy, gx, hdl] <;> rfl) (by simp only [go_sem] <;> rfl) ?_)
              refine Run.nil ?_
              refine Blk1K.nrm ?_
              refine WhlK.nxt ((i, cc)) ?_ ?_ ?_
              · simp only; omega
              · exact ⟨⟨by simp only; omega, by simp only; omega, by simp only; omega⟩, hlo, fun c1 x y h1 _ => hsl c1 x y h1⟩
              · exact Ghost.kp [0, 1, 2, 3, 4, 18, 19, 20, 21, 22] [900] (by simp only [go_sem, hsum, hsh, hh, t1, t2, gy, gx, hdl]; first | ((repeat' (first | with_reducible_and_instances rfl | refine st_eq ?_ ?_ ?_ | refine ret_eq ?_ | refine tup_eq ?_ | refine tm_eq ?_ ?_ | refine arr_eq ?_ | refine cells_eq ?_ | refine val_eq ?_ | refine ls_eq ?_ ?_ | refine own_eq ?_ ?_ | refine sl_eq ?_ | refine b_eq ?_ | (refine i_eq ?_; omega))); done) | rfl)
          · skip
            have hij : i = j := by have := of_decide_eq_false hb151; omega
            subst hij
            obtain ⟨⟨b1, b2, b3, b4⟩, hmg⟩ := sym_final hw hl hr h2l h2r hmid.symm hj ⟨h01, h2j⟩ hlo hhi
            obtain ⟨l1, hl1⟩ : ∃ x, l.take (i - p.length) = x := ⟨_, rfl⟩
            obtain ⟨l2, hl2⟩ : ∃ x, l.drop (i - p.length) = x := ⟨_, rfl⟩
            obtain ⟨r1, hr1⟩ : ∃ x, r.take (mid - i) = x := ⟨_, rfl⟩
            obtain ⟨r2, hr2⟩ : ∃ x, r.drop (mid - i) = x := ⟨_, rfl⟩
            have el : l = l1 ++ l2 := by rw [← hl1, ← hl2, List.take_append_drop]
            have er : r = r1 ++ r2 := by rw [← hr1, ← hr2, List.take_append_drop]
            have ll1 : l1.length = i - p.length := by rw [← hl1]; simp; omega
            have ll2 : l2.length = l.length - (i - p.length) := by rw [← hl2]; simp
            have lr1 : r1.length = mid - i := by rw [← hr1]; simp; omega
            have lr2 : r2.length = r.length - (mid - i) := by rw [← hr2]; simp
            rw [hl1, hl2, hr1, hr2] at hmg
            have ol := hl
            rw [el] at ol
            have or0 := hr
            rw [er] at or0
            have ol1 := (List.pairwise_append.1 ol).1
            have ol2 := (List.pairwise_append.1 ol).2.1
            have or1 := (List.pairwise_append.1 or0).1
            have or2 := (List.pairwise_append.1 or0).2.1
            have hmid2 : mid < p.length + l.length + r.length ∧ p.length < mid := by omega
            have hpl : (p ++ l1).length = p.length + l1.length := List.length_append
            have hpm : (p ++ mg (fun x y => decide (c x y < 0)) l1 r1).length = p.length + (l1.length + r1.length) := by rw [List.length_append, mg_len]
            have hd1 : p ++ (l ++ (r ++ q)) = (p ++ l1) ++ (l2 ++ (r1 ++ (r2 ++ q))) := by rw [el, er]; simp
            have hd2 : p ++ (mg (fun x y => decide (c x y < 0)) l1 r1 ++ (l2 ++ (r2 ++ q))) = (p ++ mg (fun x y => decide (c x y < 0)) l1 r1) ++ (l2 ++ (r2 ++ q)) := by simp
            rw [hd1]
            refine Exec.exitS ?_
            refine WhlK.ext ?_
            refine BlkK.hit ?_
            refine Exec.reg ?_
            iterate 2 (refine Run.op (by simp only [go_sem, hsum, hsh, hmid] <;> rfl) (by simp only [go_sem] <;> rfl) ?_)
            refine Run.op (by simp only [go_sem, hsum, hsh, hmid]; (try simp (disch := omega) only [IntWalk.i64_in, IntWalk.u64_in, if_neg, if_pos])<;> rfl) (by simp only [go_sem] <;> rfl) ?_
            refine Run.op (by simp only [go_sem, hsum, hsh, hmid] <;> rfl) (by simp only [go_sem] <;> rfl) ?_
            refine Run.nil ?_
            refine Exec.assocS ?_
            refine Exec.reg ?_
            iterate 4 (refine Run.op (by simp only [go_sem, hsum, hsh, hmid] <;> rfl) (by simp only [go_sem] <;> rfl) ?_)
            refine Run.gop (by simp only [go_sem] <;> rfl) (by simp only [go_sem, hsum, hsh, hmid] <;> rfl) (by simp only [go_sem] <;> rfl) ?_
            refine Run.gop (by simp only [go_sem] <;> rfl) (by simp only [go_sem, hsum, hsh, hmid] <;> rfl) (by simp only [go_sem] <;> rfl) ?_
            refine Run.gop (by simp only [go_sem] <;> rfl) (by simp only [go_sem, hsum, hsh, hmid] <;> rfl) (by simp only [go_sem] <;> rfl) ?_
            refine Run.op (by simp only [go_sem, hsum, hsh, hmid] <;> rfl) (by simp only [go_sem] <;> rfl) ?_
            refine Run.nil ?_
            refine Exec.joinA [0, 1, 2, 3, 4, 18, 20, 24] [900] (fun (u1 : Unit) => [.obj 900 (.arr 77 4 ((p ++ (l1 ++ (r1 ++ (l2 ++ (r2 ++ q))))).map encNum))]) (fun (u1 : Unit) => True) (fun u1 => by simp only [go_sem] <;> rfl) ?_ (fun u1 hj => ?_)
            · skip
              refine Exec.cnd (by simp only [go_sem, hsum, hsh, hmid] <;> rfl) (fun hb185 => ?_) (fun hb185 => ?_)
              · skip
                have hq : i < p.length + l.length ∧ p.length + l.length < mid + (p.length + l.length) - i := by simp only [Bool.and_eq_true, decide_eq_true_eq] at hb185; omega
                refine Exec.reg1 ?_
                iterate 5 (refine Run.op (by simp only [go_sem, hsum, hsh, hmid, List.append_assoc] <;> rfl) (by simp only [go_sem] <;> rfl) ?_)
                refine Run.lendA 900 900 (c_rotate_numbered (p ++ l1) l2 r1 (r2 ++ q) n (by omega) (by omega) (by simp only [List.length_append]; omega) hn2) (by simp only [List.length_append, List.length_map]; omega) (by simp only [go_sem]) (by simp only [go_sem] <;> rfl) (by simp only [go_sem, hsum, hsh, hmid, List.append_assoc] <;> rfl) (by simp only [go_sem, hsum, hsh, hmid, List.append_assoc] <;> rfl) (by exact ⟨by first | exact WkR.pure rfl | exact WkR.of rfl rfl | exact WkR.nil _ | exact WkR.int (by first | omega | (simp; done) | (simp; omega)), by first | exact WkR.pure rfl | exact WkR.of rfl rfl | exact WkR.nil _ | exact WkR.int (by first | omega | (simp; done) | (simp; omega)), by first | exact WkR.pure rfl | exact WkR.of rfl rfl | exact WkR.nil _ | exact WkR.int (by first | omega | (simp; done) | (simp; omega)), by first | exact WkR.pure rfl | exact WkR.of rfl rfl | exact WkR.nil _ | exact WkR.int (by first | omega | (simp; done) | (simp; omega)), by first | exact WkR.pure rfl | exact WkR.of rfl rfl | exact WkR.nil _ | exact WkR.int (by first | omega | (simp; done) | (simp; omega)), trivial⟩) (by simp only [go_sem, hsum, hsh, hmid, List.append_assoc] <;> rfl) ?_
                refine Run.nil ?_
                refine JoinK.nrm (()) ?_ ?_
                · trivial
                · exact Ghost.kp [0, 1, 2, 3, 4, 18, 20, 24] [900] (by simp only [go_sem, hsum, hsh, hmid, List.append_assoc]; first | ((repeat' (first | with_reducible_and_instances rfl | refine st_eq ?_ ?_ ?_ | refine ret_eq ?_ | refine tup_eq ?_ | refine tm_eq ?_ ?_ | refine arr_eq ?_ | refine cells_eq ?_ | refine val_eq ?_ | refine ls_eq ?_ ?_ | refine own_eq ?_ ?_ | refine sl_eq ?_ | refine b_eq ?_ | (refine i_eq ?_; omega))); done) | rfl)
              · skip
                have hq : ¬ (i < p.length + l.length ∧ i < mid) := by simp only [Bool.and_eq_false_iff, decide_eq_false_iff_not] at hb185; omega
                have hsame : (p ++ l1) ++ (l2 ++ (r1 ++ (r2 ++ q))) = p ++ (l1 ++ (r1 ++ (l2 ++ (r2 ++ q)))) := by
                  rcases Nat.lt_or_ge i (p.length + l.length) with h | h
                  · have : r1 = [] := List.eq_nil_of_length_eq_zero (by omega)
                    rw [this]; simp
                  · have : l2 = [] := List.eq_nil_of_length_eq_zero (by omega)
                    rw [this]; simp
                refine JoinK.nrm (()) ?_ ?_
                · trivial
                · exact Ghost.kp [0, 1, 2, 3, 4, 18, 20, 24] [900] (by simp only [go_sem, hsum, hsh, hmid, hsame]; first | ((repeat' (first | with_reducible_and_instances rfl | refine st_eq ?_ ?_ ?_ | refine ret_eq ?_ | refine tup_eq ?_ | refine tm_eq ?_ ?_ | refine arr_eq ?_ | refine cells_eq ?_ | refine val_eq ?_ | refine ls_eq ?_ ?_ | refine own_eq ?_ ?_ | refine sl_eq ?_ | refine b_eq ?_ | (refine i_eq ?_; omega))); done) | rfl)
            · skip
              refine Exec.assocS ?_
              refine Exec.reg ?_
              iterate 4 (refine Run.op (by simp only [go_sem, hsum, hsh, hmid] <;> rfl) (by simp only [go_sem] <;> rfl) ?_)
              refine Run.gop (by simp only [go_sem] <;> rfl) (by simp only [go_sem, hsum, hsh, hmid] <;> rfl) (by simp only [go_sem] <;> rfl) ?_
              refine Run.gop (by simp only [go_sem] <;> rfl) (by simp only [go_sem, hsum, hsh, hmid] <;> rfl) (by simp only [go_sem] <;> rfl) ?_
              refine Run.gop (by simp only [go_sem] <;> rfl) (by simp only [go_sem, hsum, hsh, hmid] <;> rfl) (by simp only [go_sem] <;> rfl) ?_
              refine Run.op (by simp only [go_sem, hsum, hsh, hmid] <;> rfl) (by simp only [go_sem] <;> rfl) ?_
              refine Run.nil ?_
              refine Exec.joinA [0, 2, 3, 4, 18, 24] [900] (fun (u2 : Unit) => [.obj 900 (.arr 77 4 ((p ++ (mg (fun x y => decide (c x y < 0)) l1 r1 ++ (l2 ++ (r2 ++ q)))).map encNum))]) (fun (u2 : Unit) => True) (fun u2 => by simp only [go_sem] <;> rfl) ?_ (fun u2 hj => ?_)
              · skip
                refine Exec.cnd (by simp only [go_sem, hsum, hsh, hmid] <;> rfl) (fun hb199 => ?_) (fun hb199 => ?_)
                · skip
                  have hq : p.length < i ∧ i < mid := by simp only [Bool.and_eq_true, decide_eq_true_eq] at hb199; omega
                  refine Exec.reg1 ?_
                  iterate 5 (refine Run.op (by simp only [go_sem, hsum, hsh, hmid] <;> rfl) (by simp only [go_sem] <;> rfl) ?_)
                  refine Run.lendA 900 900 (IH p l1 r1 (l2 ++ (r2 ++ q)) (by omega) (by omega) (by omega) ol1 or1 (by simp only [List.length_append]; omega)) (by simp only [List.length_append, List.length_map, mg_len]; omega) (by simp only [go_sem]) (by simp only [go_sem] <;> rfl) (by simp only [go_sem, hsum, hsh, hmid] <;> rfl) (by simp only [go_sem, hsum, hsh, hmid] <;> rfl) (by exact ⟨by first | exact WkR.pure rfl | exact WkR.of rfl rfl | exact WkR.nil _ | exact WkR.int (by first | omega | (simp; done) | (simp; omega)), by first | exact WkR.pure rfl | exact WkR.of rfl rfl | exact WkR.nil _ | exact WkR.int (by first | omega | (simp; done) | (simp; omega)), by first | exact WkR.pure rfl | exact WkR.of rfl rfl | exact WkR.nil _ | exact WkR.int (by first | omega | (simp; done) | (simp; omega)), by first | exact WkR.pure rfl | exact WkR.of rfl rfl | exact WkR.nil _ | exact WkR.int (by first | omega | (simp; done) | (simp; omega)), by first | exact WkR.pure rfl | exact WkR.of rfl rfl | exact WkR.nil _ | exact WkR.int (by first | omega | (simp; done) | (simp; omega)), trivial⟩) (by simp only [go_sem, hsum, hsh, hmid] <;> rfl) ?_
                  refine Run.nil ?_
                  refine JoinK.nrm (()) ?_ ?_
                  · trivial
                  · exact Ghost.kp [0, 2, 3, 4, 18, 24] [900] (by simp only [go_sem, hsum, hsh, hmid]; first | ((repeat' (first | with_reducible_and_instances rfl | refine st_eq ?_ ?_ ?_ | refine ret_eq ?_ | refine tup_eq ?_ | refine tm_eq ?_ ?_ | refine arr_eq ?_ | refine cells_eq ?_ | refine val_eq ?_ | refine ls_eq ?_ ?_ | refine own_eq ?_ ?_ | refine sl_eq ?_ | refine b_eq ?_ | (refine i_eq ?_; omega))); done) | rfl)
                · skip
                  have hq : ¬ (p.length < i ∧ i < mid) := by simp only [Bool.and_eq_false_iff, decide_eq_false_iff_not] at hb199; omega
                  have hsame : p ++ (l1 ++ (r1 ++ (l2 ++ (r2 ++ q)))) = p ++ (mg (fun x y => decide (c x y < 0)) l1 r1 ++ (l2 ++ (r2 ++ q))) := by
                    rcases Nat.lt_or_ge p.length i with h | h
                    · have : r1 = [] := List.eq_nil_of_length_eq_zero (by omega)
                      rw [this, mg_nil]; simp
                    · have : l1 = [] := List.eq_nil_of_length_eq_zero (by omega)
                      rw [this, mg_nl]; simp
                  refine JoinK.nrm (()) ?_ ?_
                  · trivial
                  · exact Ghost.kp [0, 2, 3, 4, 18, 24] [900] (by simp only [go_sem, hsum, hsh, hmid, hsame]; first | ((repeat' (first | with_reducible_and_instances rfl | refine st_eq ?_ ?_ ?_ | refine ret_eq ?_ | refine tup_eq ?_ | refine tm_eq ?_ ?_ | refine arr_eq ?_ | refine cells_eq ?_ | refine val_eq ?_ | refine ls_eq ?_ ?_ | refine own_eq ?_ ?_ | refine sl_eq ?_ | refine b_eq ?_ | (refine i_eq ?_; omega))); done) | rfl)
              · skip
                rw [hd2]
                refine Exec.reg ?_
                iterate 4 (refine Run.op (by simp only [go_sem, hsum, hsh, hmid] <;> rfl) (by simp only [go_sem] <;> rfl) ?_)
                refine Run.gop (by simp only [go_sem] <;> rfl) (by simp only [go_sem, hsum, hsh, hmid] <;> rfl) (by simp only [go_sem] <;> rfl) ?_
                refine Run.gop (by simp only [go_sem] <;> rfl) (by simp only [go_sem, hsum, hsh, hmid] <;> rfl) (by simp only [go_sem] <;> rfl) ?_
                refine Run.gop (by simp only [go_sem] <;> rfl) (by simp only [go_sem, hsum, hsh, hmid] <;> rfl) (by simp only [go_sem] <;> rfl) ?_
                refine Run.op (by simp only [go_sem, hsum, hsh, hmid] <;> rfl) (by simp only [go_sem] <;> rfl) ?_
                refine Run.nil ?_
                refine Exec.cnd (by simp only [go_sem, hsum, hsh, hmid] <;> rfl) (fun hb213 => ?_) (fun hb213 => ?_)
                · skip
                  have hq : mid < mid + (p.length + l.length) - i ∧ mid + (p.length + l.length) - i < p.length + l.length + r.length := by simp only [Bool.and_eq_true, decide_eq_true_eq] at hb213; omega
                  have hfin : (p ++ mg (fun x y => decide (c x y < 0)) l1 r1) ++ (mg (fun x y => decide (c x y < 0)) l2 r2 ++ q) = p ++ (mg (fun x y => decide (c x y < 0)) l r ++ q) := by rw [hmg]; simp
                  refine Exec.reg1 ?_
                  iterate 5 (refine Run.op (by simp only [go_sem, hsum, hsh, hmid, hfin] <;> rfl) (by simp only [go_sem] <;> rfl) ?_)
                  refine Run.lendA 900 900 (IH (p ++ mg (fun x y => decide (c x y < 0)) l1 r1) l2 r2 q (by omega) (by omega) (by omega) ol2 or2 (by simp only [List.length_append, mg_len]; omega)) (by simp only [List.length_append, List.length_map, mg_len]; omega) (by simp only [go_sem]) (by simp only [go_sem] <;> rfl) (by simp only [go_sem, hsum, hsh, hmid, hfin] <;> rfl) (by simp only [go_sem, hsum, hsh, hmid, hfin] <;> rfl) (by exact ⟨by first | exact WkR.pure rfl | exact WkR.of rfl rfl | exact WkR.nil _ | exact WkR.int (by first | omega | (simp; done) | (simp; omega)), by first | exact WkR.pure rfl | exact WkR.of rfl rfl | exact WkR.nil _ | exact WkR.int (by first | omega | (simp; done) | (simp; omega)), by first | exact WkR.pure rfl | exact WkR.of rfl rfl | exact WkR.nil _ | exact WkR.int (by first | omega | (simp; done) | (simp; omega)), by first | exact WkR.pure rfl | exact WkR.of rfl rfl | exact WkR.nil _ | exact WkR.int (by first | omega | (simp; done) | (simp; omega)), by first | exact WkR.pure rfl | exact WkR.of rfl rfl | exact WkR.nil _ | exact WkR.int (by first | omega | (simp; done) | (simp; omega)), trivial⟩) (by simp only [go_sem, hsum, hsh, hmid, hfin] <;> rfl) ?_
                  refine Run.nil ?_
                  exact Ends.fin0 [900] (rs := []) rfl (by simp only [go_sem, hsum, hsh, hmid, hfin] <;> rfl) (by simp only [go_sem, hsum, hsh, hmid, hfin] <;> first | rfl | ((repeat' (first | with_reducible_and_instances rfl | refine st_eq ?_ ?_ ?_ | refine ret_eq ?_ | refine tup_eq ?_ | refine tm_eq ?_ ?_ | refine arr_eq ?_ | refine cells_eq ?_ | refine val_eq ?_ | refine ls_eq ?_ ?_ | refine own_eq ?_ ?_ | refine sl_eq ?_ | refine b_eq ?_ | (refine i_eq ?_; omega))); done))
                · skip
                  have hq : ¬ (i < p.length + l.length ∧ mid + (p.length + l.length) - i < p.length + l.length + r.length) := by simp only [Bool.and_eq_false_iff, decide_eq_false_iff_not] at hb213; omega
                  have hfin : (p ++ mg (fun x y => decide (c x y < 0)) l1 r1) ++ (l2 ++ (r2 ++ q)) = p ++ (mg (fun x y => decide (c x y < 0)) l r ++ q) := by
                    rw [hmg]
                    rcases Nat.lt_or_ge i (p.length + l.length) with h | h
                    · have : r2 = [] := List.eq_nil_of_length_eq_zero (by omega)
                      rw [this, mg_nil]; simp
                    · have : l2 = [] := List.eq_nil_of_length_eq_zero (by omega)
                      rw [this, mg_nl]; simp
                  exact Ends.fin0 [900] (rs := []) rfl (by simp only [go_sem, hsum, hsh, hmid, hfin] <;> rfl) (by simp only [go_sem, hsum, hsh, hmid, hfin] <;> first | rfl | ((repeat' (first | with_reducible_and_instances rfl | refine st_eq ?_ ?_ ?_ | refine ret_eq ?_ | refine tup_eq ?_ | refine tm_eq ?_ ?_ | refine arr_eq ?_ | refine cells_eq ?_ | refine val_eq ?_ | refine ls_eq ?_ ?_ | refine own_eq ?_ ?_ | refine sl_eq ?_ | refine b_eq ?_ | (refine i_eq ?_; omega))); done))

theorem c_symMerge_numbered {g : FuncId} {ds : List D} (c : Num → Num → Int) (hg : canCall Try.prog g = true) (hc : ∀ x y, Contract Try.prog g (numV x :: numV y :: ds.map fun x => .leaf (.d x)) (.int (c x y)) []) (hw : Weak (fun x y => decide (c x y < 0))) (n : Nat) (hn2 : n ≤ 1000) :
    ∀ p l r q : List Num, 0 < l.length → 0 < r.length → InO (fun x y => decide (c x y < 0)) l → InO (fun x y => decide (c x y < 0)) r → p.length + l.length + r.length + q.length = n → Con Try.prog 68 [.leaf (.own 900 0 n n), .int (p).length, .int (((p).length + (l).length : Nat) : Int), .int (((p).length + (l).length + (r).length : Nat) : Int), .leaf (.d (.fn g ds))] [(900, .arr 77 4 ((p ++ (l ++ (r ++ q))).map encNum))] (.ret (.tup []) [(900, .arr 77 4 ((p ++ (mg (fun x y => decide (c x y < 0)) l r ++ q)).map encNum))]) := by
  have key : ∀ N, ∀ p l r q : List Num, l.length + r.length = N → 0 < l.length → 0 < r.length → InO (fun x y => decide (c x y < 0)) l → InO (fun x y => decide (c x y < 0)) r → p.length + l.length + r.length + q.length = n → Con Try.prog 68 [.leaf (.own 900 0 n n), .int (p).length, .int (((p).length + (l).length : Nat) : Int), .int (((p).length + (l).length + (r).length : Nat) : Int), .leaf (.d (.fn g ds))] [(900, .arr 77 4 ((p ++ (l ++ (r ++ q))).map encNum))] (.ret (.tup []) [(900, .arr 77 4 ((p ++ (mg (fun x y => decide (c x y < 0)) l r ++ q)).map encNum))]) := by
    intro N
    induction N using Nat.strongRecOn with
    | _ N ih =>
      intro p l r q hN h1 h2 h3 h4 h5
      exact c_symStep_numbered c hg hc hw n N hn2 (fun p l r q hlt => ih _ hlt p l r q rfl) p l r q hN h1 h2 h3 h4 h5
  exact fun p l r q => key _ p l r q rfl
end Go.Mw
namespace Go.Mw
open Go.Proofs
theorem isort_nil {α : Type} (lt : α → α → Bool) : isortE lt ([] : List α) = [] := rfl
set_option maxRecDepth 20000 in
set_option maxHeartbeats 8000000 in
/-- slices.stableCmpFunc[meterworks/card.numbered] -/
theorem c_stable_numbered {g : FuncId} {ds : List D} (c : Num → Num → Int) (hg : canCall Try.prog g = true) (hc : ∀ x y, Contract Try.prog g (numV x :: numV y :: ds.map fun x => .leaf (.d x)) (.int (c x y)) []) (hw : Weak (fun x y => decide (c x y < 0))) (l : List Num) (hn : l.length ≤ 39) : Con Try.prog 64 [.leaf (.own 900 0 l.length l.length), .int l.length, .leaf (.d (.fn g ds))] [(900, .arr 77 4 ((l).map encNum))] (.ret (.tup []) [(900, .arr 77 4 ((isortE (fun x y => decide (c x y < 0)) l).map encNum))]) := by
  rcases (show l.length < 20 ∨ l.length = 20 ∨ 20 < l.length by omega) with h20 | h20 | h20
  · skip
    skip
    refine con_of follows_mixed Try.func64 rfl (by simp only [List.length_cons, List.length_nil, Try.ntmps64]; omega) (by kernel_rfl) rfl ?_
    refine Exec.reg ?_
    refine Run.op (by simp only [go_sem, if_pos, if_neg, List.nil_append, List.append_nil] <;> rfl) (by simp only [go_sem] <;> rfl) ?_
    refine Run.nil ?_
    refine Exec.reg ?_
    iterate 3 (refine Run.op (by simp only [go_sem, if_pos, if_neg, List.nil_append, List.append_nil] <;> rfl) (by simp only [go_sem] <;> rfl) ?_)
    refine Run.nil ?_
    refine Exec.blk ?_
    refine Exec.forA [0, 1, 2, 6, 7, 8] [900] (1) (fun k => [.slot 7 (.int (20 * (k : Int))), .slot 8 (.int (20 + 20 * (k : Int))), .obj 900 (.arr 77 4 ((if k = 0 then l else isortE (fun x y => decide (c x y < 0)) l).map encNum))]) (fun k => 20 * k ≤ l.length) (fun k => by simp only [go_sem] <;> rfl) (by simp only [go_sem, if_pos, if_neg, List.nil_append, List.append_nil, if_pos, Int.natCast_zero, Int.mul_zero, Int.add_zero] <;> rfl) ?_ (fun k hk hX => ?_)
    · omega
    · skip
      refine Exec.assocS ?_
      refine Exec.reg ?_
      iterate 3 (refine Run.op (by simp only [go_sem, if_pos, if_neg, List.nil_append, List.append_nil] <;> rfl) (by simp only [go_sem] <;> rfl) ?_)
      refine Run.nil ?_
      refine Exec.cndS (by simp only [go_sem, if_pos, if_neg, List.nil_append, List.append_nil] <;> rfl) (fun hb13 => ?_) (fun hb13 => ?_)
      · skip
        exact absurd (of_decide_eq_true hb13) (by omega)
      · skip
        have hk0 : k = 0 := by omega
        subst hk0
        refine Exec.exitS ?_
        refine ForK.ext ?_
        refine BlkK.hit ?_
        refine Exec.reg ?_
        iterate 4 (refine Run.op (by simp only [go_sem, if_pos, if_neg, List.nil_append, List.append_nil] <;> rfl) (by simp only [go_sem] <;> rfl) ?_)
        refine Run.lendA 900 900 (c_insertionSort_numbered c hg hc ([]) (l) ([]) l.length (by simp [len_isortE]) (by omega)) (by first | (simp [len_isortE]; done) | (simp only [List.length_append, List.length_nil, len_isortE, List.length_map]; omega)) (by simp only [go_sem]) (by simp only [go_sem] <;> rfl) (by simp only [go_sem, if_pos, if_neg, List.nil_append, List.append_nil] <;> rfl) (by simp only [go_sem, if_pos, if_neg, List.nil_append, List.append_nil] <;> rfl) (by exact ⟨by first | exact WkR.pure rfl | exact WkR.of rfl rfl | exact WkR.nil _ | exact WkR.int (by first | omega | (simp; done) | (simp; omega)), by first | exact WkR.pure rfl | exact WkR.of rfl rfl | exact WkR.nil _ | exact WkR.int (by first | omega | (simp; done) | (simp; omega)), by first | exact WkR.pure rfl | exact WkR.of rfl rfl | exact WkR.nil _ | exact WkR.int (by first | omega | (simp; done) | (simp; omega)), by first | exact WkR.pure rfl | exact WkR.of rfl rfl | exact WkR.nil _ | exact WkR.int (by first | omega | (simp; done) | (simp; omega)), trivial⟩) (by simp only [go_sem, if_pos, if_neg, List.nil_append, List.append_nil] <;> rfl) ?_
        refine Run.nil ?_
        refine Exec.blk1 ?_
        refine Exec.forA [0, 1, 2, 6] [900] (0) (fun k => []) (fun _ => True) (fun k => by simp only [go_sem] <;> rfl) (by simp only [go_sem, if_pos, if_neg, List.nil_append, List.append_nil] <;> rfl) ?_ (fun k hk hX => ?_)
        · trivial
        · skip
          refine Exec.assocS ?_
          refine Exec.reg ?_
          iterate 3 (refine Run.op (by simp only [go_sem, if_pos, if_neg, List.nil_append, List.append_nil] <;> rfl) (by simp only [go_sem] <;> rfl) ?_)
          refine Run.nil ?_
          refine Exec.cndS (by simp only [go_sem, if_pos, if_neg, List.nil_append, List.append_nil] <;> rfl) (fun hb30 => ?_) (fun hb30 => ?_)
          · skip
            exact absurd (of_decide_eq_true hb30) (by omega)
          · skip
            refine Exec.exitS ?_
            refine ForK.ext ?_
            refine Blk1K.hit ?_
            exact Ends.fin0 [900] (rs := []) rfl (by simp only [go_sem, if_pos, if_neg, List.nil_append, List.append_nil] <;> rfl) (by simp only [go_sem, if_pos, if_neg, List.nil_append, List.append_nil] <;> first | rfl | ((repeat' (first | with_reducible_and_instances rfl | refine st_eq ?_ ?_ ?_ | refine ret_eq ?_ | refine tup_eq ?_ | refine tm_eq ?_ ?_ | refine arr_eq ?_ | refine cells_eq ?_ | refine val_eq ?_ | refine ls_eq ?_ ?_ | refine own_eq ?_ ?_ | refine sl_eq ?_ | refine b_eq ?_ | (refine i_eq ?_; omega))); done))
  · skip
    have hli : (isortE (fun x y => decide (c x y < 0)) l).length = 20 := by rw [len_isortE]; exact h20
    have h10 : ¬ (1 : Nat) = 0 := by omega
    refine con_of follows_mixed Try.func64 rfl (by simp only [List.length_cons, List.length_nil, Try.ntmps64]; omega) (by kernel_rfl) rfl ?_
    refine Exec.reg ?_
    refine Run.op (by simp only [go_sem, List.nil_append, List.append_nil, isort_nil, if_neg h10] <;> rfl) (by simp only [go_sem] <;> rfl) ?_
    refine Run.nil ?_
    refine Exec.reg ?_
    iterate 3 (refine Run.op (by simp only [go_sem, List.nil_append, List.append_nil, isort_nil, if_neg h10] <;> rfl) (by simp only [go_sem] <;> rfl) ?_)
    refine Run.nil ?_
    refine Exec.blk ?_
    refine Exec.forA [0, 1, 2, 6, 7, 8] [900] (1) (fun k => [.slot 7 (.int (20 * (k : Int))), .slot 8 (.int (20 + 20 * (k : Int))), .obj 900 (.arr 77 4 ((if k = 0 then l else isortE (fun x y => decide (c x y < 0)) l).map encNum))]) (fun k => 20 * k ≤ l.length) (fun k => by simp only [go_sem] <;> rfl) (by simp only [go_sem, List.nil_append, List.append_nil, isort_nil, if_neg h10, if_pos, Int.natCast_zero, Int.mul_zero, Int.add_zero] <;> rfl) ?_ (fun k hk hX => ?_)
    · omega
    · skip
      refine Exec.assocS ?_
      refine Exec.reg ?_
      iterate 3 (refine Run.op (by simp only [go_sem, List.nil_append, List.append_nil, isort_nil, if_neg h10] <;> rfl) (by simp only [go_sem] <;> rfl) ?_)
      refine Run.nil ?_
      refine Exec.cndS (by simp only [go_sem, List.nil_append, List.append_nil, isort_nil, if_neg h10] <;> rfl) (fun hb13 => ?_) (fun hb13 => ?_)
      · skip
        have hk0 : k = 0 := by have := of_decide_eq_true hb13; omega
        subst hk0
        refine Exec.skipS ?_
        refine Exec.blk1 ?_
        refine Exec.reg ?_
        iterate 4 (refine Run.op (by simp only [go_sem, List.nil_append, List.append_nil, isort_nil, if_neg h10] <;> rfl) (by simp only [go_sem] <;> rfl) ?_)
        refine Run.lendA 900 900 (c_insertionSort_numbered c hg hc ([]) (l) ([]) l.length (by simp [len_isortE]) (by omega)) (by first | (simp [len_isortE]; done) | (simp only [List.length_append, List.length_nil, len_isortE, List.length_map]; omega)) (by simp only [go_sem]) (by simp only [go_sem] <;> rfl) (by simp only [go_sem, List.nil_append, List.append_nil, isort_nil, if_neg h10] <;> rfl) (by simp only [go_sem, List.nil_append, List.append_nil, isort_nil, if_neg h10] <;> rfl) (by exact ⟨by first | exact WkR.pure rfl | exact WkR.of rfl rfl | exact WkR.nil _ | exact WkR.int (by first | omega | (simp; done) | (simp; omega)), by first | exact WkR.pure rfl | exact WkR.of rfl rfl | exact WkR.nil _ | exact WkR.int (by first | omega | (simp; done) | (simp; omega)), by first | exact WkR.pure rfl | exact WkR.of rfl rfl | exact WkR.nil _ | exact WkR.int (by first | omega | (simp; done) | (simp; omega)), by first | exact WkR.pure rfl | exact WkR.of rfl rfl | exact WkR.nil _ | exact WkR.int (by first | omega | (simp; done) | (simp; omega)), trivial⟩) (by simp only [go_sem, List.nil_append, List.append_nil, isort_nil, if_neg h10] <;> rfl) ?_
        refine Run.nil ?_
        refine Exec.reg ?_
        iterate 2 (refine Run.op (by simp only [go_sem, List.nil_append, List.append_nil, isort_nil, if_neg h10] <;> rfl) (by simp only [go_sem] <;> rfl) ?_)
        refine Run.nil ?_
        refine Exec.reg1 ?_
        iterate 2 (refine Run.op (by simp only [go_sem, List.nil_append, List.append_nil, isort_nil, if_neg h10] <;> rfl) (by simp only [go_sem] <;> rfl) ?_)
        refine Run.op (by simp only [go_sem, List.nil_append, List.append_nil, isort_nil, if_neg h10]; (try simp (disch := omega) only [IntWalk.i64_in, IntWalk.u64_in, if_neg, if_pos])<;> rfl) (by simp only [go_sem] <;> rfl) ?_
        refine Run.op (by simp only [go_sem, List.nil_append, List.append_nil, isort_nil, if_neg h10] <;> rfl) (by simp only [go_sem] <;> rfl) ?_
        refine Run.nil ?_
        refine Blk1K.nrm ?_
        refine ForK.nxt ?_ ?_ ?_
        · omega
        · exact Ghost.kp [0, 1, 2, 6, 7, 8] [900] (by simp only [go_sem, List.nil_append, List.append_nil, isort_nil, if_neg h10]; first | ((repeat' (first | with_reducible_and_instances rfl | refine st_eq ?_ ?_ ?_ | refine ret_eq ?_ | refine tup_eq ?_ | refine tm_eq ?_ ?_ | refine arr_eq ?_ | refine cells_eq ?_ | refine val_eq ?_ | refine ls_eq ?_ ?_ | refine own_eq ?_ ?_ | refine sl_eq ?_ | refine b_eq ?_ | (refine i_eq ?_; omega))); done) | rfl)
        · omega
      · skip
        have hk0 : k = 1 := by have := of_decide_eq_false hb13; omega
        subst hk0
        refine Exec.exitS ?_
        refine ForK.ext ?_
        refine BlkK.hit ?_
        refine Exec.reg ?_
        iterate 4 (refine Run.op (by simp only [go_sem, List.nil_append, List.append_nil, isort_nil, if_neg h10] <;> rfl) (by simp only [go_sem] <;> rfl) ?_)
        refine Run.lendA 900 900 (c_insertionSort_numbered c hg hc (isortE (fun x y => decide (c x y < 0)) l) ([]) ([]) l.length (by simp only [List.length_append, List.length_nil, len_isortE]; omega) (by omega)) (by first | (simp [len_isortE]; done) | (simp only [List.length_append, List.length_nil, len_isortE, List.length_map]; omega)) (by simp only [go_sem]) (by simp only [go_sem] <;> rfl) (by simp only [go_sem, List.nil_append, List.append_nil, isort_nil, if_neg h10] <;> rfl) (by simp only [go_sem, List.nil_append, List.append_nil, isort_nil, if_neg h10] <;> rfl) (by exact ⟨by first | exact WkR.pure rfl | exact WkR.of rfl rfl | exact WkR.nil _ | exact WkR.int (by first | omega | (simp; done) | (simp; omega)), by first | exact WkR.pure rfl | exact WkR.of rfl rfl | exact WkR.nil _ | exact WkR.int (by first | omega | (simp; done) | (simp; omega)), by first | exact WkR.pure rfl | exact WkR.of rfl rfl | exact WkR.nil _ | exact WkR.int (by first | omega | (simp; done) | (simp; omega)), by first | exact WkR.pure rfl | exact WkR.of rfl rfl | exact WkR.nil _ | exact WkR.int (by first | omega | (simp; done) | (simp; omega)), trivial⟩) (by simp only [go_sem, List.nil_append, List.append_nil, isort_nil, if_neg h10] <;> rfl) ?_
        refine Run.nil ?_
        refine Exec.blk1 ?_
        refine Exec.forA [0, 1, 2, 6] [900] (0) (fun k => []) (fun _ => True) (fun k => by simp only [go_sem] <;> rfl) (by simp only [go_sem, List.nil_append, List.append_nil, isort_nil, if_neg h10] <;> rfl) ?_ (fun k hk hX => ?_)
        · trivial
        · skip
          refine Exec.assocS ?_
          refine Exec.reg ?_
          iterate 3 (refine Run.op (by simp only [go_sem, List.nil_append, List.append_nil, isort_nil, if_neg h10] <;> rfl) (by simp only [go_sem] <;> rfl) ?_)
          refine Run.nil ?_
          refine Exec.cndS (by simp only [go_sem, List.nil_append, List.append_nil, isort_nil, if_neg h10] <;> rfl) (fun hb30 => ?_) (fun hb30 => ?_)
          · skip
            exact absurd (of_decide_eq_true hb30) (by omega)
          · skip
            refine Exec.exitS ?_
            refine ForK.ext ?_
            refine Blk1K.hit ?_
            exact Ends.fin0 [900] (rs := []) rfl (by simp only [go_sem, List.nil_append, List.append_nil, isort_nil, if_neg h10] <;> rfl) (by simp only [go_sem, List.nil_append, List.append_nil, isort_nil, if_neg h10] <;> first | rfl | ((repeat' (first | with_reducible_and_instances rfl | refine st_eq ?_ ?_ ?_ | refine ret_eq ?_ | refine tup_eq ?_ | refine tm_eq ?_ ?_ | refine arr_eq ?_ | refine cells_eq ?_ | refine val_eq ?_ | refine ls_eq ?_ ?_ | refine own_eq ?_ ?_ | refine sl_eq ?_ | refine b_eq ?_ | (refine i_eq ?_; omega))); done))
  · skip
    obtain ⟨A, B, rfl, hA, hB⟩ := cutL (l := l) (n := 20) (by omega)
    have hAB : (A ++ B).length = A.length + B.length := List.length_append
    have lA : (isortE (fun x y => decide (c x y < 0)) A).length = 20 := by rw [len_isortE]; exact hA
    have lB : (isortE (fun x y => decide (c x y < 0)) B).length = B.length := len_isortE _
    have hmg := sort_app hw A B
    have hnil : ([] : List Num).length = 0 := rfl
    obtain ⟨n, hN⟩ : ∃ n, (A ++ B).length = n := ⟨_, rfl⟩
    rw [hN] at hn h20 hAB ⊢
    have h10 : ¬ (1 : Nat) = 0 := by omega
    refine con_of follows_mixed Try.func64 rfl (by simp only [List.length_cons, List.length_nil, Try.ntmps64]; omega) (by kernel_rfl) rfl ?_
    refine Exec.reg ?_
    refine Run.op (by simp only [go_sem, List.nil_append, List.append_nil, if_neg h10] <;> rfl) (by simp only [go_sem] <;> rfl) ?_
    refine Run.nil ?_
    refine Exec.reg ?_
    iterate 3 (refine Run.op (by simp only [go_sem, List.nil_append, List.append_nil, if_neg h10] <;> rfl) (by simp only [go_sem] <;> rfl) ?_)
    refine Run.nil ?_
    refine Exec.blk ?_
    refine Exec.forA [0, 1, 2, 6, 7, 8] [900] (1) (fun k => [.slot 7 (.int (20 * (k : Int))), .slot 8 (.int (20 + 20 * (k : Int))), .obj 900 (.arr 77 4 ((if k = 0 then A ++ B else isortE (fun x y => decide (c x y < 0)) A ++ B).map encNum))]) (fun _ => True) (fun k => by simp only [go_sem] <;> rfl) (by simp only [go_sem, List.nil_append, List.append_nil, if_neg h10, if_pos, Int.natCast_zero, Int.mul_zero, Int.add_zero] <;> rfl) ?_ (fun k hk hX => ?_)
    · trivial
    · skip
      refine Exec.assocS ?_
      refine Exec.reg ?_
      iterate 3 (refine Run.op (by simp only [go_sem, List.nil_append, List.append_nil, if_neg h10] <;> rfl) (by simp only [go_sem] <;> rfl) ?_)
      refine Run.nil ?_
      refine Exec.cndS (by simp only [go_sem, List.nil_append, List.append_nil, if_neg h10] <;> rfl) (fun hb13 => ?_) (fun hb13 => ?_)
      · skip
        have hk0 : k = 0 := by have := of_decide_eq_true hb13; omega
        subst hk0
        refine Exec.skipS ?_
        refine Exec.blk1 ?_
        refine Exec.reg ?_
        iterate 4 (refine Run.op (by simp only [go_sem, List.nil_append, List.append_nil, if_neg h10] <;> rfl) (by simp only [go_sem] <;> rfl) ?_)
        refine Run.lendA 900 900 (c_insertionSort_numbered c hg hc [] A B n (by rw [List.nil_append]; exact hN) (by omega)) (by first | (simp [len_isortE]; done) | (simp [len_isortE]; omega)) (by simp only [go_sem]) (by simp only [go_sem] <;> rfl) (by simp only [go_sem, List.nil_append, List.append_nil, if_neg h10] <;> rfl) (by simp only [go_sem, List.nil_append, List.append_nil, if_neg h10] <;> rfl) (by exact ⟨by first | exact WkR.pure rfl | exact WkR.of rfl rfl | exact WkR.nil _ | exact WkR.int (by first | omega | (simp; done) | (simp; omega)), by first | exact WkR.pure rfl | exact WkR.of rfl rfl | exact WkR.nil _ | exact WkR.int (by first | omega | (simp; done) | (simp; omega)), by first | exact WkR.pure rfl | exact WkR.of rfl rfl | exact WkR.nil _ | exact WkR.int (by first | omega | (simp; done) | (simp; omega)), by first | exact WkR.pure rfl | exact WkR.of rfl rfl | exact WkR.nil _ | exact WkR.int (by first | omega | (simp; done) | (simp; omega)), trivial⟩) (by simp only [go_sem, List.nil_append, List.append_nil, if_neg h10] <;> rfl) ?_
        refine Run.nil ?_
        refine Exec.reg ?_
        iterate 2 (refine Run.op (by simp only [go_sem, List.nil_append, List.append_nil, if_neg h10] <;> rfl) (by simp only [go_sem] <;> rfl) ?_)
        refine Run.nil ?_
        refine Exec.reg1 ?_
        iterate 2 (refine Run.op (by simp only [go_sem, List.nil_append, List.append_nil, if_neg h10] <;> rfl) (by simp only [go_sem] <;> rfl) ?_)
        refine Run.op (by simp only [go_sem, List.nil_append, List.append_nil, if_neg h10]; (try simp (disch := omega) only [IntWalk.i64_in, IntWalk.u64_in, if_neg, if_pos])<;> rfl) (by simp only [go_sem] <;> rfl) ?_
        refine Run.op (by simp only [go_sem, List.nil_append, List.append_nil, if_neg h10] <;> rfl) (by simp only [go_sem] <;> rfl) ?_
        refine Run.nil ?_
        refine Blk1K.nrm ?_
        refine ForK.nxt ?_ ?_ ?_
        · omega
        · exact Ghost.kp [0, 1, 2, 6, 7, 8] [900] (by simp only [go_sem, List.nil_append, List.append_nil, if_neg h10]; first | ((repeat' (first | with_reducible_and_instances rfl | refine st_eq ?_ ?_ ?_ | refine ret_eq ?_ | refine tup_eq ?_ | refine tm_eq ?_ ?_ | refine arr_eq ?_ | refine cells_eq ?_ | refine val_eq ?_ | refine ls_eq ?_ ?_ | refine own_eq ?_ ?_ | refine sl_eq ?_ | refine b_eq ?_ | (refine i_eq ?_; omega))); done) | rfl)
        · trivial
      · skip
        have hk0 : k = 1 := by have := of_decide_eq_false hb13; omega
        subst hk0
        refine Exec.exitS ?_
        refine ForK.ext ?_
        refine BlkK.hit ?_
        refine Exec.reg ?_
        iterate 4 (refine Run.op (by simp only [go_sem, List.nil_append, List.append_nil, if_neg h10] <;> rfl) (by simp only [go_sem] <;> rfl) ?_)
        refine Run.lendA 900 900 (c_insertionSort_numbered c hg hc (isortE (fun x y => decide (c x y < 0)) A) B [] n (by first | (simp [len_isortE]; done) | (simp [len_isortE]; omega)) (by omega)) (by first | (simp [len_isortE]; done) | (simp [len_isortE]; omega)) (by simp only [go_sem]) (by simp only [go_sem] <;> rfl) (by simp only [go_sem, List.nil_append, List.append_nil, if_neg h10] <;> rfl) (by simp only [go_sem, List.nil_append, List.append_nil, if_neg h10] <;> rfl) (by exact ⟨by first | exact WkR.pure rfl | exact WkR.of rfl rfl | exact WkR.nil _ | exact WkR.int (by first | omega | (simp; done) | (simp; omega)), by first | exact WkR.pure rfl | exact WkR.of rfl rfl | exact WkR.nil _ | exact WkR.int (by first | omega | (simp; done) | (simp; omega)), by first | exact WkR.pure rfl | exact WkR.of rfl rfl | exact WkR.nil _ | exact WkR.int (by first | omega | (simp; done) | (simp; omega)), by first | exact WkR.pure rfl | exact WkR.of rfl rfl | exact WkR.nil _ | exact WkR.int (by first | omega | (simp; done) | (simp; omega)), trivial⟩) (by simp only [go_sem, List.nil_append, List.append_nil, if_neg h10] <;> rfl) ?_
        refine Run.nil ?_
        refine Exec.blk1 ?_
        refine Exec.forA [0, 1, 2, 6] [900] (1) (fun j => [.slot 6 (.int (20 + 20 * (j : Int))), .obj 900 (.arr 77 4 ((if j = 0 then isortE (fun x y => decide (c x y < 0)) A ++ isortE (fun x y => decide (c x y < 0)) B else isortE (fun x y => decide (c x y < 0)) (A ++ B)).map encNum))]) (fun _ => True) (fun j => by simp only [go_sem] <;> rfl) (by simp only [go_sem, List.nil_append, List.append_nil, if_neg h10, if_pos, Int.natCast_zero, Int.mul_zero, Int.add_zero] <;> rfl) ?_ (fun j hj Xj => ?_)
        · trivial
        · skip
          refine Exec.assocS ?_
          refine Exec.reg ?_
          iterate 3 (refine Run.op (by simp only [go_sem, List.nil_append, List.append_nil, if_neg h10] <;> rfl) (by simp only [go_sem] <;> rfl) ?_)
          refine Run.nil ?_
          refine Exec.cndS (by simp only [go_sem, List.nil_append, List.append_nil, if_neg h10] <;> rfl) (fun hb30 => ?_) (fun hb30 => ?_)
          · skip
            have hj0 : j = 0 := by have := of_decide_eq_true hb30; omega
            subst hj0
            refine Exec.skipS ?_
            refine Exec.blk1 ?_
            refine Exec.reg ?_
            refine Run.op (by simp only [go_sem, List.nil_append, List.append_nil, if_neg h10, hmg] <;> rfl) (by simp only [go_sem] <;> rfl) ?_
            refine Run.op (by simp only [go_sem, List.nil_append, List.append_nil, if_neg h10, hmg]; (try simp (disch := omega) only [IntWalk.i64_in, IntWalk.u64_in, if_neg, if_pos])<;> rfl) (by simp only [go_sem] <;> rfl) ?_
            iterate 2 (refine Run.op (by simp only [go_sem, List.nil_append, List.append_nil, if_neg h10, hmg] <;> rfl) (by simp only [go_sem] <;> rfl) ?_)
            refine Run.nil ?_
            refine Exec.blk ?_
            refine Exec.forA [0, 1, 2, 6, 7, 8] [900] (0) (fun i => []) (fun _ => True) (fun i => by simp only [go_sem] <;> rfl) (by simp only [go_sem, List.nil_append, List.append_nil, if_neg h10, hmg] <;> rfl) ?_ (fun i hi Xi => ?_)
            · trivial
            · skip
              refine Exec.assocS ?_
              refine Exec.reg ?_
              iterate 3 (refine Run.op (by simp only [go_sem, List.nil_append, List.append_nil, if_neg h10, hmg] <;> rfl) (by simp only [go_sem] <;> rfl) ?_)
              refine Run.nil ?_
              refine Exec.cndS (by simp only [go_sem, List.nil_append, List.append_nil, if_neg h10, hmg] <;> rfl) (fun hb35 => ?_) (fun hb35 => ?_)
              · skip
                exact absurd (of_decide_eq_true hb35) (by omega)
              · skip
                refine Exec.exitS ?_
                refine ForK.ext ?_
                refine BlkK.hit ?_
                refine Exec.assocS ?_
                refine Exec.reg ?_
                iterate 2 (refine Run.op (by simp only [go_sem, List.nil_append, List.append_nil, if_neg h10, hmg] <;> rfl) (by simp only [go_sem] <;> rfl) ?_)
                refine Run.op (by simp only [go_sem, List.nil_append, List.append_nil, if_neg h10, hmg]; (try simp (disch := omega) only [IntWalk.i64_in, IntWalk.u64_in, if_neg, if_pos])<;> rfl) (by simp only [go_sem] <;> rfl) ?_
                refine Run.op (by simp only [go_sem, List.nil_append, List.append_nil, if_neg h10, hmg] <;> rfl) (by simp only [go_sem] <;> rfl) ?_
                refine Run.nil ?_
                refine Exec.assocS ?_
                refine Exec.reg ?_
                iterate 3 (refine Run.op (by simp only [go_sem, List.nil_append, List.append_nil, if_neg h10, hmg] <;> rfl) (by simp only [go_sem] <;> rfl) ?_)
                refine Run.nil ?_
                refine Exec.cndS (by simp only [go_sem, List.nil_append, List.append_nil, if_neg h10, hmg] <;> rfl) (fun hb54 => ?_) (fun hb54 => ?_)
                · skip
                  refine Exec.reg ?_
                  iterate 5 (refine Run.op (by simp only [go_sem, List.nil_append, List.append_nil, if_neg h10, hmg] <;> rfl) (by simp only [go_sem] <;> rfl) ?_)
                  refine Run.lendA 900 900 (c_symMerge_numbered c hg hc hw n (by omega) [] (isortE (fun x y => decide (c x y < 0)) A) (isortE (fun x y => decide (c x y < 0)) B) [] (by omega) (by omega) (ino_sort hw A) (ino_sort hw B) (by first | (simp [len_isortE]; done) | (simp [len_isortE]; omega))) (by first | (simp [len_isortE, mg_len]; done) | (simp [len_isortE, mg_len]; omega)) (by simp only [go_sem]) (by simp only [go_sem] <;> rfl) (by simp only [go_sem, List.nil_append, List.append_nil, if_neg h10, hmg] <;> rfl) (by simp only [go_sem, List.nil_append, List.append_nil, if_neg h10, hmg] <;> rfl) (by exact ⟨by first | exact WkR.pure rfl | exact WkR.of rfl rfl | exact WkR.nil _ | exact WkR.int (by first | omega | (simp; done) | (simp; omega)), by first | exact WkR.pure rfl | exact WkR.of rfl rfl | exact WkR.nil _ | exact WkR.int (by first | omega | (simp; done) | (simp; omega)), by first | exact WkR.pure rfl | exact WkR.of rfl rfl | exact WkR.nil _ | exact WkR.int (by first | omega | (simp; done) | (simp; omega)), by first | exact WkR.pure rfl | exact WkR.of rfl rfl | exact WkR.nil _ | exact WkR.int (by first | omega | (simp; done) | (simp; omega)), by first | exact WkR.pure rfl | exact WkR.of rfl rfl | exact WkR.nil _ | exact WkR.int (by first | omega | (simp; done) | (simp; omega)), trivial⟩) (by simp only [go_sem, List.nil_append, List.append_nil, if_neg h10, hmg] <;> rfl) ?_
                  refine Run.nil ?_
                  refine Exec.reg1 ?_
                  refine Run.op (by simp only [go_sem, List.nil_append, List.append_nil, if_neg h10, hmg] <;> rfl) (by simp only [go_sem] <;> rfl) ?_
                  refine Run.op (by simp only [go_sem, List.nil_append, List.append_nil, if_neg h10, hmg]; (try simp (disch := omega) only [IntWalk.i64_in, IntWalk.u64_in, if_neg, if_pos])<;> rfl) (by simp only [go_sem] <;> rfl) ?_
                  refine Run.op (by simp only [go_sem, List.nil_append, List.append_nil, if_neg h10, hmg] <;> rfl) (by simp only [go_sem] <;> rfl) ?_
                  refine Run.nil ?_
                  refine Blk1K.nrm ?_
                  refine ForK.nxt ?_ ?_ ?_
                  · omega
                  · exact Ghost.kp [0, 1, 2, 6] [900] (by simp only [go_sem, List.nil_append, List.append_nil, if_neg h10, hmg]; first | ((repeat' (first | with_reducible_and_instances rfl | refine st_eq ?_ ?_ ?_ | refine ret_eq ?_ | refine tup_eq ?_ | refine tm_eq ?_ ?_ | refine arr_eq ?_ | refine cells_eq ?_ | refine val_eq ?_ | refine ls_eq ?_ ?_ | refine own_eq ?_ ?_ | refine sl_eq ?_ | refine b_eq ?_ | (refine i_eq ?_; omega))); done) | rfl)
                  · trivial
                · skip
                  exact absurd (of_decide_eq_false hb54) (by omega)
          · skip
            have hj0 : j = 1 := by have := of_decide_eq_false hb30; omega
            subst hj0
            refine Exec.exitS ?_
            refine ForK.ext ?_
            refine Blk1K.hit ?_
            exact Ends.fin0 [900] (rs := []) rfl (by simp only [go_sem, List.nil_append, List.append_nil, if_neg h10] <;> rfl) (by simp only [go_sem, List.nil_append, List.append_nil, if_neg h10] <;> first | rfl | ((repeat' (first | with_reducible_and_instances rfl | refine st_eq ?_ ?_ ?_ | refine ret_eq ?_ | refine tup_eq ?_ | refine tm_eq ?_ ?_ | refine arr_eq ?_ | refine cells_eq ?_ | refine val_eq ?_ | refine ls_eq ?_ ?_ | refine own_eq ?_ ?_ | refine sl_eq ?_ | refine b_eq ?_ | (refine i_eq ?_; omega))); done))

end Go.Mw

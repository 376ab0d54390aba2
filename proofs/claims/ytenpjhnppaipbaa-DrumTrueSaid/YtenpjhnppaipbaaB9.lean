/- Contracts of the functions that the drum reaches: the totals of a reading. -/
import Derived.Test.YtenpjhnppaipbaaB8
import Derived.Test.YtenpjhnppaipbaaB3
set_option linter.unusedSimpArgs false
set_option linter.unusedVariables false
set_option linter.unusedSectionVars false
set_option linter.deprecated false
namespace Go.Mw
open Go.Proofs
open Go.Dr
set_option maxRecDepth 20000 in
/-- meterworks/drum.options_1 -/
theorem c_options_1 (c : Go.Dr.Span) (m : Int) : Contract Try.prog 59 [spanV c, .leaf (.d (.pt [.i m]))] (spanV ⟨c.lo, min c.hi m⟩) [] := by
  refine con_of follows_mixed Try.func59 rfl (by simp only [List.length_cons, List.length_nil, Try.ntmps59]; omega) (by kernel_rfl) rfl ?_
  refine Exec.reg ?_
  iterate 2 (refine Run.op (by simp only [go_sem, pick_min] <;> rfl) (by simp only [go_sem] <;> rfl) ?_)
  refine Run.nil ?_
  refine Exec.reg ?_
  iterate 8 (refine Run.op (by simp only [go_sem, pick_min] <;> rfl) (by simp only [go_sem] <;> rfl) ?_)
  refine Run.nil ?_
  exact Ends.fin [] (rs := [.cell 3 45]) rfl (by simp only [go_sem, pick_min] <;> rfl) (by simp only [go_sem, pick_min] <;> first | rfl | ((repeat' (first | with_reducible_and_instances rfl | refine st_eq ?_ ?_ ?_ | refine ret_eq ?_ | refine tup_eq ?_ | refine tm_eq ?_ ?_ | refine arr_eq ?_ | refine cells_eq ?_ | refine val_eq ?_ | refine ls_eq ?_ ?_ | refine own_eq ?_ ?_ | refine sl_eq ?_ | refine b_eq ?_ | (refine i_eq ?_; omega))); done))

set_option maxRecDepth 20000 in
/-- meterworks/drum.options_2 -/
theorem c_options_2 (c : Go.Dr.Span) (m : Int) (hm : 0 ≤ m ∧ m ≤ 999) : Contract Try.prog 60 [spanV c, .leaf (.d (.pt [.i m]))] (spanV ⟨max c.lo (1000 - m), c.hi⟩) [] := by
  refine con_of follows_mixed Try.func60 rfl (by simp only [List.length_cons, List.length_nil, Try.ntmps60]; omega) (by kernel_rfl) rfl ?_
  refine Exec.reg ?_
  iterate 2 (refine Run.op (by simp only [go_sem, pick_max] <;> rfl) (by simp only [go_sem] <;> rfl) ?_)
  refine Run.nil ?_
  refine Exec.reg ?_
  iterate 3 (refine Run.op (by simp only [go_sem, pick_max] <;> rfl) (by simp only [go_sem] <;> rfl) ?_)
  refine Run.op (by simp only [go_sem, pick_max]; (try simp (disch := omega) only [IntWalk.i64_in, IntWalk.u64_in, if_neg, if_pos])<;> rfl) (by simp only [go_sem] <;> rfl) ?_
  iterate 5 (refine Run.op (by simp only [go_sem, pick_max] <;> rfl) (by simp only [go_sem] <;> rfl) ?_)
  refine Run.nil ?_
  exact Ends.fin [] (rs := [.cell 3 45]) rfl (by simp only [go_sem, pick_max] <;> rfl) (by simp only [go_sem, pick_max] <;> first | rfl | ((repeat' (first | with_reducible_and_instances rfl | refine st_eq ?_ ?_ ?_ | refine ret_eq ?_ | refine tup_eq ?_ | refine tm_eq ?_ ?_ | refine arr_eq ?_ | refine cells_eq ?_ | refine val_eq ?_ | refine ls_eq ?_ ?_ | refine own_eq ?_ ?_ | refine sl_eq ?_ | refine b_eq ?_ | (refine i_eq ?_; omega))); done))

set_option maxRecDepth 20000 in
/-- meterworks/drum.options -/
theorem c_drum_options (x m : Int) (hx : 0 ≤ x ∧ x ≤ 9) : Contract Try.prog 54 [.int x, .int m] (.val true [.d (.i x), .d (.fn 59 [.pt [.i m]]), .d (.i ((x + 9) % 10)), .d (.fn 60 [.pt [.i m]])]) [] := by
  have e : (x + 9).tmod 10 = (x + 9) % 10 := tmod_e (by omega)
  refine con_of follows_mixed Try.func54 rfl (by simp only [List.length_cons, List.length_nil, Try.ntmps54]; omega) (by kernel_rfl) rfl ?_
  refine Exec.reg ?_
  iterate 2 (refine Run.op (by simp only [go_sem, e] <;> rfl) (by simp only [go_sem] <;> rfl) ?_)
  refine Run.nil ?_
  refine Exec.reg ?_
  refine Run.frz 3 (by simp only [go_sem] <;> rfl) ?_
  iterate 4 (refine Run.op (by simp only [go_sem, e] <;> rfl) (by simp only [go_sem] <;> rfl) ?_)
  refine Run.op (by simp only [go_sem, e]; (try simp (disch := omega) only [IntWalk.i64_in, IntWalk.u64_in, if_neg, if_pos])<;> rfl) (by simp only [go_sem] <;> rfl) ?_
  refine Run.op (by simp only [go_sem, e]; (try simp (disch := omega) only [IntWalk.i64_in, IntWalk.u64_in, if_neg, if_pos])<;> rfl) (by simp only [go_sem] <;> rfl) ?_
  iterate 4 (refine Run.op (by simp only [go_sem, e] <;> rfl) (by simp only [go_sem] <;> rfl) ?_)
  refine Run.nil ?_
  exact Ends.fin [] (rs := [.cell 4 78]) rfl (by simp only [go_sem, e] <;> rfl) (by simp only [go_sem, e] <;> first | rfl | ((repeat' (first | with_reducible_and_instances rfl | refine st_eq ?_ ?_ ?_ | refine ret_eq ?_ | refine tup_eq ?_ | refine tm_eq ?_ ?_ | refine arr_eq ?_ | refine cells_eq ?_ | refine val_eq ?_ | refine ls_eq ?_ ?_ | refine own_eq ?_ ?_ | refine sl_eq ?_ | refine b_eq ?_ | (refine i_eq ?_; omega))); done))

def encTot (e : Int × Int × Int) : List AV := [.int e.1, spanV ⟨e.2.1, e.2.2⟩]
def fromQ (fs : List Int) (m : Int) : List (Nat × AO) := [(900, .yl), (901, .cells [.obj 900]), (902, .cells [.obj 903]), (903, .clo 53 [.d (.pt [intsD fs]), .ptr 901 0, .d (.pt [.i m]), .ptr 902 0])]
/-- What is still to come when k of the two digits have been tried. -/
def vR (m x : Int) (r : List Int) (b pw : Int) (ch : Bool) (lo hi : Int) (k : Nat) : List (Int × Int × Int) :=
  if k = 0 then totR m (x :: r) b pw ch lo hi else if k = 1 then (if ch = true then (if max lo (1000 - m) > hi then [] else totR m r (b + (x + 9) % 10 * pw) (10 * pw) ((x + 9) % 10 == 9) (max lo (1000 - m)) hi) else []) else []
theorem vR_two (m x : Int) (r : List Int) (b pw : Int) (ch : Bool) (lo hi : Int) : vR m x r b pw ch lo hi 2 = [] := rfl
theorem vR_zero (m x : Int) (r : List Int) (b pw : Int) (ch : Bool) (lo hi : Int) : vR m x r b pw ch lo hi 0 = totR m (x :: r) b pw ch lo hi := rfl
theorem vR_0f (m x : Int) (r : List Int) (b pw lo hi : Int) : (vR m x r b pw false lo hi 0).map encTot = (totR m r (b + x * pw) (10 * pw) false lo hi).map encTot ++ (vR m x r b pw false lo hi 1).map encTot := by
  unfold vR; simp [totR_f]
theorem vR_0t (m x : Int) (r : List Int) (b pw lo hi : Int) (h : ¬ lo > min hi m) : (vR m x r b pw true lo hi 0).map encTot = (totR m r (b + x * pw) (10 * pw) (x == 9) lo (min hi m)).map encTot ++ (vR m x r b pw true lo hi 1).map encTot := by
  unfold vR; simp only [if_true]; rw [totR_t, if_neg h]; simp
theorem vR_0n (m x : Int) (r : List Int) (b pw lo hi : Int) (h : lo > min hi m) : (vR m x r b pw true lo hi 0).map encTot = (vR m x r b pw true lo hi 1).map encTot := by
  unfold vR; simp only [if_true]; rw [totR_t, if_pos h]; simp
theorem vR_1f (m x : Int) (r : List Int) (b pw lo hi : Int) : (vR m x r b pw false lo hi 1).map encTot = (vR m x r b pw false lo hi 2).map encTot := rfl
theorem vR_1t (m x : Int) (r : List Int) (b pw lo hi : Int) (h : ¬ max lo (1000 - m) > hi) : (vR m x r b pw true lo hi 1).map encTot = (totR m r (b + (x + 9) % 10 * pw) (10 * pw) ((x + 9) % 10 == 9) (max lo (1000 - m)) hi).map encTot ++ (vR m x r b pw true lo hi 2).map encTot := by
  unfold vR; simp [h]
theorem vR_1n (m x : Int) (r : List Int) (b pw lo hi : Int) (h : max lo (1000 - m) > hi) : (vR m x r b pw true lo hi 1).map encTot = (vR m x r b pw true lo hi 2).map encTot := by
  unfold vR; simp [h]
theorem fromQ_ok (fs : List Int) (m : Int) {A : ASt} {B : Nat} {lend : List (Nat × Nat)} {l : List (List AV)} (hdom : lend.map Prod.fst = [900, 901, 902, 903]) (hinj : (lend.map Prod.snd).Nodup)
    (h0 : ∀ n, look lend 900 = some n → A.obj n = some .yl) (h1 : ∀ n, look lend 901 = some n → A.obj n = some (.cells [.obj (rn lend B 900)])) (h2 : ∀ n, look lend 902 = some n → A.obj n = some (.cells [.obj (rn lend B 903)]))
    (h3 : ∀ n, look lend 903 = some n → A.obj n = some (.clo 53 [.d (.pt [intsD fs]), .ptr (rn lend B 901) 0, .d (.pt [.i m]), .ptr (rn lend B 902) 0])) : CallOK A B lend (fromQ fs m) (yB l (retB (fromQ fs m))) := by
  refine callOK_same hdom hinj rfl (fun p hp n hn => ?_) (fun p hp es he => ?_)
  · unfold fromQ at hp
    simp only [List.mem_cons, List.not_mem_nil, or_false] at hp
    rcases hp with rfl | rfl | rfl | rfl
    · exact h0 n hn
    · exact h1 n hn
    · exact h2 n hn
    · exact h3 n hn
  · unfold fromQ at hp
    simp only [List.mem_cons, List.not_mem_nil, or_false] at hp
    rcases hp with rfl | rfl | rfl | rfl <;> cases he
attribute [local go_sem] fromQ
set_option maxRecDepth 20000 in
/-- meterworks/drum.totals_1_1 -/
theorem c_from_end (fs : List Int) (m : Int) (hm : 0 ≤ m ∧ m ≤ 999) (hl : fs.length ≤ 6) (hfs : ∀ x ∈ fs, 0 ≤ x ∧ x ≤ 9) (k0 : Nat) (hk : k0 = fs.length) (b lo hi : Int) (ch : Bool) (hb : 0 ≤ b ∧ b ≤ 1000 * pow10 k0) (hlo : 0 ≤ lo ∧ lo ≤ 1000) (hhi : 0 ≤ hi ∧ hi ≤ 1000) : Con Try.prog 53 [.int (k0 : Int), .int b, .int (1000 * pow10 k0), .bool ch, spanV ⟨lo, hi⟩, .leaf (.d (.pt [intsD fs])), .leaf (.ptr 901 0), .leaf (.d (.pt [.i m])), .leaf (.ptr 902 0)] (fromQ fs m) (yB ((totR m (fs.drop k0) b (1000 * pow10 k0) ch lo hi).map encTot) (retB (fromQ fs m))) := by
  have hne : ((k0 : Int) == (fs.length : Int)) = true := by rw [beq_iff_eq]; omega
  have hdr : fs.drop k0 = [] := List.drop_eq_nil_of_le (by omega)
  rw [hdr]
  have hto : (totR m [] b (1000 * pow10 k0) ch lo hi).map encTot = [[.int b, spanV ⟨lo, hi⟩]] := rfl
  rw [hto, yB_one]
  refine con_of follows_mixed Try.func53 rfl (by simp only [List.length_cons, List.length_nil, Try.ntmps53]; omega) (by kernel_rfl) rfl ?_
  refine Exec.reg ?_
  iterate 2 (refine Run.op (by simp only [go_sem, hne] <;> rfl) (by simp only [go_sem] <;> rfl) ?_)
  refine Run.nil ?_
  refine Exec.scp ?_
  refine Exec.assocS ?_
  refine Exec.reg ?_
  iterate 4 (refine Run.op (by simp only [go_sem, hne] <;> rfl) (by simp only [go_sem] <;> rfl) ?_)
  refine Run.nil ?_
  refine Exec.cndS (by simp only [go_sem, hne] <;> rfl) (fun hb21 => ?_) (fun hb21 => ?_)
  · skip
    refine Exec.assocS ?_
    refine Exec.reg ?_
    iterate 3 (refine Run.op (by simp only [go_sem, hne] <;> rfl) (by simp only [go_sem] <;> rfl) ?_)
    refine Run.yld (args := [.int b, spanV ⟨lo, hi⟩]) (by simp only [go_sem, fromQ] <;> rfl) (by simp only [go_sem, fromQ] <;> rfl) (by simp only [go_sem] <;> rfl) (by exact ⟨WkP.refl rfl, WkP.refl rfl, trivial⟩) rfl (fun t => ?_)
    refine Run.op (by simp only [go_sem, hne] <;> rfl) (by simp only [go_sem] <;> rfl) ?_
    refine Run.nil ?_
    refine Exec.retS ?_
    exact Ends.fin [900, 901, 902, 903] (rs := [.tmp 14]) rfl (by simp only [go_sem, hne] <;> rfl) (by simp only [go_sem, hne] <;> first | rfl | ((repeat' (first | with_reducible_and_instances rfl | refine st_eq ?_ ?_ ?_ | refine ret_eq ?_ | refine tup_eq ?_ | refine tm_eq ?_ ?_ | refine arr_eq ?_ | refine cells_eq ?_ | refine val_eq ?_ | refine ls_eq ?_ ?_ | refine own_eq ?_ ?_ | refine sl_eq ?_ | refine b_eq ?_ | (refine i_eq ?_; omega))); done))
  · skip
    exact absurd hb21 (by simp [hne])

set_option maxRecDepth 20000 in
set_option maxHeartbeats 16000000 in
/-- meterworks/drum.totals_1_1 -/
theorem c_from_false (fs : List Int) (m : Int) (hm : 0 ≤ m ∧ m ≤ 999) (hl : fs.length ≤ 6) (hfs : ∀ x ∈ fs, 0 ≤ x ∧ x ≤ 9) (k0 : Nat) (hk : k0 < fs.length) (hk1 : 1 ≤ k0) (ih : ∀ (b lo hi : Int) (ch : Bool), (0 ≤ b ∧ b ≤ 1000 * pow10 (k0 + 1)) → (0 ≤ lo ∧ lo ≤ 1000) → (0 ≤ hi ∧ hi ≤ 1000) → Con Try.prog 53 [.int ((k0 + 1 : Nat) : Int), .int b, .int (1000 * pow10 (k0 + 1)), .bool ch, spanV ⟨lo, hi⟩, .leaf (.d (.pt [intsD fs])), .leaf (.ptr 901 0), .leaf (.d (.pt [.i m])), .leaf (.ptr 902 0)] (fromQ fs m) (yB ((totR m (fs.drop (k0 + 1)) b (1000 * pow10 (k0 + 1)) ch lo hi).map encTot) (retB (fromQ fs m)))) (b lo hi : Int) (hb : 0 ≤ b ∧ b ≤ 1000 * pow10 k0) (hlo : 0 ≤ lo ∧ lo ≤ 1000) (hhi : 0 ≤ hi ∧ hi ≤ 1000) : Con Try.prog 53 [.int (k0 : Int), .int b, .int (1000 * pow10 k0), .bool false, spanV ⟨lo, hi⟩, .leaf (.d (.pt [intsD fs])), .leaf (.ptr 901 0), .leaf (.d (.pt [.i m])), .leaf (.ptr 902 0)] (fromQ fs m) (yB ((totR m (fs.drop k0) b (1000 * pow10 k0) false lo hi).map encTot) (retB (fromQ fs m))) := by
  obtain ⟨x, hx⟩ : ∃ x, fs[k0]? = some x := ⟨_, List.getElem?_eq_getElem (by omega)⟩
  have hxb := hfs x (List.mem_of_getElem? hx)
  have hdr : fs.drop k0 = x :: fs.drop (k0 + 1) := by
    obtain ⟨h1, rfl⟩ := List.getElem?_eq_some_iff.1 hx
    exact (List.getElem_cons_drop h1).symm
  obtain ⟨r, hr⟩ : ∃ r, fs.drop (k0 + 1) = r := ⟨_, rfl⟩
  have hp := pow_le6 (k := k0) (by omega)
  have hps := pow10_succ k0
  have hpw : 10 * (1000 * pow10 k0) = 1000 * pow10 (k0 + 1) := by omega
  have m1 : 0 ≤ x * (1000 * pow10 k0) ∧ x * (1000 * pow10 k0) ≤ 9 * (1000 * pow10 k0) := ⟨Int.mul_nonneg (by omega) (by omega), Int.mul_le_mul_of_nonneg_right (by omega) (by omega)⟩
  have m2 : 0 ≤ (x + 9) % 10 * (1000 * pow10 k0) ∧ (x + 9) % 10 * (1000 * pow10 k0) ≤ 9 * (1000 * pow10 k0) := ⟨Int.mul_nonneg (by omega) (by omega), Int.mul_le_mul_of_nonneg_right (by omega) (by omega)⟩
  rw [hr] at hdr
  rw [hr] at ih
  have hne : ((k0 : Int) == (fs.length : Int)) = false := by rw [beq_eq_false_iff_ne]; omega
  have hx9 : ¬ (x + 9) % 10 = x := by omega
  have hx9b : ((x + 9) % 10 != x) = true := by simpa using hx9
  rw [hdr]
  rw [← vR_zero]
  refine con_of follows_mixed Try.func53 rfl (by simp only [List.length_cons, List.length_nil, Try.ntmps53]; omega) (by kernel_rfl) rfl ?_
  refine Exec.reg ?_
  iterate 2 (refine Run.op (by simp only [go_sem, hx, hne, hpw, bne_self_eq_false, hx9b] <;> rfl) (by simp only [go_sem] <;> rfl) ?_)
  refine Run.nil ?_
  refine Exec.scp ?_
  refine Exec.assocS ?_
  refine Exec.reg ?_
  iterate 4 (refine Run.op (by simp only [go_sem, hx, hne, hpw, bne_self_eq_false, hx9b] <;> rfl) (by simp only [go_sem] <;> rfl) ?_)
  refine Run.nil ?_
  refine Exec.cndS (by simp only [go_sem, hx, hne, hpw, bne_self_eq_false, hx9b] <;> rfl) (fun hb21 => ?_) (fun hb21 => ?_)
  · skip
    exact absurd hb21 (by simp [hne])
  · skip
    refine Exec.skipS ?_
    refine Exec.lblS ?_
    refine Exec.assocS ?_
    refine Exec.opk 9 ?_
    refine OpenK.op (by simp only [go_sem, hx, hne, hpw, bne_self_eq_false, hx9b] <;> rfl) (by simp only [go_sem] <;> rfl) (by simp only [go_sem] <;> rfl) ?_
    refine OpenK.op (by simp only [go_sem, hx, hne, hpw, bne_self_eq_false, hx9b] <;> rfl) (by simp only [go_sem] <;> rfl) (by simp only [go_sem] <;> rfl) ?_
    refine OpenK.op (by simp only [go_sem, hx, hne, hpw, bne_self_eq_false, hx9b]; (try simp (disch := omega) only [if_pos]); (try simp only [go_sem, hx, hne, hpw, bne_self_eq_false, hx9b])<;> rfl) (by simp only [go_sem] <;> rfl) (by simp only [go_sem] <;> rfl) ?_
    refine OpenK.op (by simp only [go_sem, hx, hne, hpw, bne_self_eq_false, hx9b] <;> rfl) (by simp only [go_sem] <;> rfl) (by simp only [go_sem] <;> rfl) ?_
    refine OpenK.op (by simp only [go_sem, hx, hne, hpw, bne_self_eq_false, hx9b] <;> rfl) (by simp only [go_sem] <;> rfl) (by simp only [go_sem] <;> rfl) ?_
    refine OpenK.cal (c_drum_options x m hxb) (by simp only [go_sem]) (by simp only [go_sem, hx, hne, hpw, bne_self_eq_false, hx9b] <;> rfl) (by exact ⟨by first | exact WkR.pure rfl | exact WkR.nil _ | exact WkR.int (by first | omega | (simp; done) | (simp; omega)), by first | exact WkR.pure rfl | exact WkR.nil _ | exact WkR.int (by first | omega | (simp; done) | (simp; omega)), trivial⟩) (fr0) (by simp only [go_sem, hx, hne, hpw, bne_self_eq_false, hx9b] <;> rfl) (by simp only [go_sem] <;> rfl) (by simp only [go_sem] <;> rfl) ?_
    refine OpenK.op (by simp only [go_sem, hx, hne, hpw, bne_self_eq_false, hx9b] <;> rfl) (by simp only [go_sem] <;> rfl) (by simp only [go_sem] <;> rfl) ?_
    refine OpenK.nil (OpenE.fin (by decide +kernel) (by decide +kernel) ?_)
    refine Exec.blk ?_
    refine Exec.forY [0, 1, 2, 3, 5, 8, 13, 31, 32] [13, 900, 901, 902, 903] (2) (fun k => [.slot 32 (.int k)]) (fun k => yB ((vR m x r b (1000 * pow10 k0) false lo hi k).map encTot) (retB (fromQ fs m))) (fun _ => True) (fun k => by simp only [go_sem] <;> rfl) (by simp only [go_sem, hx, hne, hpw, bne_self_eq_false, hx9b] <;> rfl) ?_ (fun k hk hX => ?_)
    · trivial
    · skip
      refine Exec.reg ?_
      refine Run.op (by simp only [go_sem, hx, hne, hpw, bne_self_eq_false, hx9b] <;> rfl) (by simp only [go_sem] <;> rfl) ?_
      refine Run.nil ?_
      refine Exec.cndS (by simp only [go_sem, hx, hne, hpw, bne_self_eq_false, hx9b] <;> rfl) (fun hb33 => ?_) (fun hb33 => ?_)
      · skip
        have hlt : k < 2 := by have := of_decide_eq_true hb33; omega
        refine Exec.skipS ?_
        refine Exec.blk ?_
        by_cases hk0 : k = 0
        · skip
          subst hk0
          refine Exec.reg ?_
          iterate 3 (refine Run.op (by simp only [go_sem, hx, hne, hpw, bne_self_eq_false, hx9b, Int.natCast_zero, Int.toNat_zero, Nat.zero_mul] <;> rfl) (by simp only [go_sem] <;> rfl) ?_)
          refine Run.nil ?_
          refine Exec.reg ?_
          iterate 3 (refine Run.op (by simp only [go_sem, hx, hne, hpw, bne_self_eq_false, hx9b, Int.natCast_zero, Int.toNat_zero, Nat.zero_mul] <;> rfl) (by simp only [go_sem] <;> rfl) ?_)
          refine Run.nil ?_
          refine Exec.assocS ?_
          refine Exec.reg ?_
          refine Run.op (by simp only [go_sem, hx, hne, hpw, bne_self_eq_false, hx9b, Int.natCast_zero, Int.toNat_zero, Nat.zero_mul] <;> rfl) (by simp only [go_sem] <;> rfl) ?_
          refine Run.nil ?_
          refine Exec.cndS (by simp only [go_sem, hx, hne, hpw, bne_self_eq_false, hx9b, Int.natCast_zero, Int.toNat_zero, Nat.zero_mul] <;> rfl) (fun hb36 => ?_) (fun hb36 => ?_)
          · exact absurd hb36 (by simp)
          · skip
            skip
            refine Exec.assocS ?_
            refine Exec.opk 9 ?_
            refine OpenK.op (by simp only [go_sem, hx, hne, hpw, bne_self_eq_false, hx9b, Int.natCast_zero, Int.toNat_zero, Nat.zero_mul] <;> rfl) (by simp only [go_sem] <;> rfl) (by simp only [go_sem] <;> rfl) ?_
            refine OpenK.op (by simp only [go_sem, hx, hne, hpw, bne_self_eq_false, hx9b, Int.natCast_zero, Int.toNat_zero, Nat.zero_mul] <;> rfl) (by simp only [go_sem] <;> rfl) (by simp only [go_sem] <;> rfl) ?_
            refine OpenK.op (by simp only [go_sem, hx, hne, hpw, bne_self_eq_false, hx9b, Int.natCast_zero, Int.toNat_zero, Nat.zero_mul] <;> rfl) (by simp only [go_sem] <;> rfl) (by simp only [go_sem] <;> rfl) ?_
            refine OpenK.op (by simp only [go_sem, hx, hne, hpw, bne_self_eq_false, hx9b, Int.natCast_zero, Int.toNat_zero, Nat.zero_mul] <;> rfl) (by simp only [go_sem] <;> rfl) (by simp only [go_sem] <;> rfl) ?_
            refine OpenK.op (by simp only [go_sem, hx, hne, hpw, bne_self_eq_false, hx9b, Int.natCast_zero, Int.toNat_zero, Nat.zero_mul]; (try simp (disch := omega) only [if_pos]); (try simp only [go_sem, hx, hne, hpw, bne_self_eq_false, hx9b, Int.natCast_zero, Int.toNat_zero, Nat.zero_mul])<;> rfl) (by simp only [go_sem] <;> rfl) (by simp only [go_sem] <;> rfl) ?_
            refine OpenK.op (by simp only [go_sem, hx, hne, hpw, bne_self_eq_false, hx9b, Int.natCast_zero, Int.toNat_zero, Nat.zero_mul] <;> rfl) (by simp only [go_sem] <;> rfl) (by simp only [go_sem] <;> rfl) ?_
            refine OpenK.op (by simp only [go_sem, hx, hne, hpw, bne_self_eq_false, hx9b, Int.natCast_zero, Int.toNat_zero, Nat.zero_mul] <;> rfl) (by simp only [go_sem] <;> rfl) (by simp only [go_sem] <;> rfl) ?_
            refine OpenK.nil (OpenE.fin (by decide +kernel) (by decide +kernel) ?_)
            refine Exec.cndS (by simp only [go_sem, hx, hne, hpw, bne_self_eq_false, hx9b, Int.natCast_zero, Int.toNat_zero, Nat.zero_mul] <;> rfl) (fun hb52 => ?_) (fun hb52 => ?_)
            · exact absurd hb52 (by simp)
            · skip
              have hvr := vR_0f m x r b (1000 * pow10 k0) lo hi
              refine Exec.skipS ?_
              refine Exec.reg ?_
              iterate 2 (refine Run.op (by simp only [go_sem, hx, hne, hpw, bne_self_eq_false, hx9b, Int.natCast_zero, Int.toNat_zero, Nat.zero_mul] <;> rfl) (by simp only [go_sem] <;> rfl) ?_)
              refine Run.op (by simp only [go_sem, hx, hne, hpw, bne_self_eq_false, hx9b, Int.natCast_zero, Int.toNat_zero, Nat.zero_mul]; (try simp (disch := omega) only [IntWalk.i64_in, IntWalk.u64_in, if_neg, if_pos])<;> rfl) (by simp only [go_sem] <;> rfl) ?_
              iterate 4 (refine Run.op (by simp only [go_sem, hx, hne, hpw, bne_self_eq_false, hx9b, Int.natCast_zero, Int.toNat_zero, Nat.zero_mul] <;> rfl) (by simp only [go_sem] <;> rfl) ?_)
              refine Run.op (by simp only [go_sem, hx, hne, hpw, bne_self_eq_false, hx9b, Int.natCast_zero, Int.toNat_zero, Nat.zero_mul]; (try simp (disch := omega) only [IntWalk.i64_in, IntWalk.u64_in, if_neg, if_pos])<;> rfl) (by simp only [go_sem] <;> rfl) ?_
              refine Run.op (by simp only [go_sem, hx, hne, hpw, bne_self_eq_false, hx9b, Int.natCast_zero, Int.toNat_zero, Nat.zero_mul]; (try simp (disch := omega) only [IntWalk.i64_in, IntWalk.u64_in, if_neg, if_pos])<;> rfl) (by simp only [go_sem] <;> rfl) ?_
              refine Run.op (by simp only [go_sem, hx, hne, hpw, bne_self_eq_false, hx9b, Int.natCast_zero, Int.toNat_zero, Nat.zero_mul] <;> rfl) (by simp only [go_sem] <;> rfl) ?_
              refine Run.op (by simp only [go_sem, hx, hne, hpw, bne_self_eq_false, hx9b, Int.natCast_zero, Int.toNat_zero, Nat.zero_mul]; (try simp (disch := omega) only [IntWalk.i64_in, IntWalk.u64_in, if_neg, if_pos])<;> rfl) (by simp only [go_sem] <;> rfl) ?_
              iterate 2 (refine Run.op (by simp only [go_sem, hx, hne, hpw, bne_self_eq_false, hx9b, Int.natCast_zero, Int.toNat_zero, Nat.zero_mul] <;> rfl) (by simp only [go_sem] <;> rfl) ?_)
              refine Run.gop (by simp only [go_sem] <;> rfl) (by simp only [go_sem, hx, hne, hpw, bne_self_eq_false, hx9b, Int.natCast_zero, Int.toNat_zero, Nat.zero_mul] <;> rfl) (by simp only [go_sem] <;> rfl) ?_
              refine Run.gop (by simp only [go_sem] <;> rfl) (by simp only [go_sem, hx, hne, hpw, bne_self_eq_false, hx9b, Int.natCast_zero, Int.toNat_zero, Nat.zero_mul] <;> rfl) (by simp only [go_sem] <;> rfl) ?_
              refine Run.gop (by simp only [go_sem] <;> rfl) (by simp only [go_sem, hx, hne, hpw, bne_self_eq_false, hx9b, Int.natCast_zero, Int.toNat_zero, Nat.zero_mul] <;> rfl) (by simp only [go_sem] <;> rfl) ?_
              iterate 2 (refine Run.op (by simp only [go_sem, hx, hne, hpw, bne_self_eq_false, hx9b, Int.natCast_zero, Int.toNat_zero, Nat.zero_mul] <;> rfl) (by simp only [go_sem] <;> rfl) ?_)
              refine Run.callF [(900, 900), (901, 901), (902, 902), (903, 903)] (fun t => bif t then yB ((vR m x r b (1000 * pow10 k0) false lo hi 1).map encTot) (retB (fromQ fs m)) else retB (fromQ fs m) false) (ih (b + x * (1000 * pow10 k0)) lo hi false (by omega) (by omega) (by omega)) (by simp only [go_sem]) (.inr ⟨903, by simp only [go_sem] <;> rfl, by simp only [go_sem] <;> rfl⟩) (by simp only [go_sem] <;> rfl) (by exact ⟨WkR.int (by first | rfl | omega), WkR.int (by first | rfl | omega), WkR.int (by first | rfl | omega), WkR.pure rfl, WkR.pure rfl, WkR.pure rfl, WkR.of rfl rfl, WkR.pure rfl, WkR.of rfl rfl, trivial⟩) (fromQ_ok fs m rfl (by decide) (fun n hn => by cases hn; simp only [go_sem] <;> rfl) (fun n hn => by cases hn; simp only [go_sem] <;> rfl) (fun n hn => by cases hn; simp only [go_sem] <;> rfl) (fun n hn => by cases hn; simp only [go_sem] <;> rfl)) (by simp only [go_sem, hvr, yB_app, hpw] <;> rfl) (fun t => ?_)
              refine Run.op (by simp only [go_sem, hx, hne, hpw, bne_self_eq_false, hx9b, Int.natCast_zero, Int.toNat_zero, Nat.zero_mul] <;> rfl) (by simp only [go_sem] <;> rfl) ?_
              refine Run.nil ?_
              refine Exec.cnd (by simp only [go_sem, hx, hne, hpw, bne_self_eq_false, hx9b, Int.natCast_zero, Int.toNat_zero, Nat.zero_mul] <;> rfl) (fun hb72 => ?_) (fun hb72 => ?_)
              · skip
                have ht : t = false := by simpa using hb72
                subst ht
                refine Exec.reg ?_
                refine Run.op (by simp only [go_sem, hx, hne, hpw, bne_self_eq_false, hx9b, Int.natCast_zero, Int.toNat_zero, Nat.zero_mul] <;> rfl) (by simp only [go_sem] <;> rfl) ?_
                refine Run.nil ?_
                refine BlkK.ret ?_
                refine ForK.ret ?_
                refine BlkK.ret ?_
                exact Ends.fin [900, 901, 902, 903] (rs := [.tmp 14]) rfl (by simp only [go_sem, hx, hne, hpw, bne_self_eq_false, hx9b, Int.natCast_zero, Int.toNat_zero, Nat.zero_mul] <;> rfl) (by simp only [go_sem, hx, hne, hpw, bne_self_eq_false, hx9b, Int.natCast_zero, Int.toNat_zero, Nat.zero_mul] <;> first | rfl | ((repeat' (first | with_reducible_and_instances rfl | refine st_eq ?_ ?_ ?_ | refine ret_eq ?_ | refine tup_eq ?_ | refine tm_eq ?_ ?_ | refine arr_eq ?_ | refine cells_eq ?_ | refine val_eq ?_ | refine ls_eq ?_ ?_ | refine own_eq ?_ ?_ | refine sl_eq ?_ | refine b_eq ?_ | (refine i_eq ?_; omega))); done))
              · skip
                have ht : t = true := by simpa using hb72
                subst ht
                refine BlkK.nrm ?_
                refine Exec.reg1 ?_
                refine Run.op (by simp only [go_sem, hx, hne, hpw, bne_self_eq_false, hx9b, Int.natCast_zero, Int.toNat_zero, Nat.zero_mul]; (try simp (disch := omega) only [IntWalk.i64_in, IntWalk.u64_in, if_neg, if_pos])<;> rfl) (by simp only [go_sem] <;> rfl) ?_
                refine Run.op (by simp only [go_sem, hx, hne, hpw, bne_self_eq_false, hx9b, Int.natCast_zero, Int.toNat_zero, Nat.zero_mul] <;> rfl) (by simp only [go_sem] <;> rfl) ?_
                refine Run.nil ?_
                refine ForK.nxt ?_ ?_ ?_
                · omega
                · exact Ghost.kp [0, 1, 2, 3, 5, 8, 13, 31, 32] [13, 900, 901, 902, 903] (by simp only [go_sem, hx, hne, hpw, bne_self_eq_false, hx9b, Int.natCast_zero, Int.toNat_zero, Nat.zero_mul]; first | ((repeat' (first | with_reducible_and_instances rfl | refine st_eq ?_ ?_ ?_ | refine ret_eq ?_ | refine tup_eq ?_ | refine tm_eq ?_ ?_ | refine arr_eq ?_ | refine cells_eq ?_ | refine val_eq ?_ | refine ls_eq ?_ ?_ | refine own_eq ?_ ?_ | refine sl_eq ?_ | refine b_eq ?_ | (refine i_eq ?_; omega))); done) | rfl)
                · trivial
        · skip
          have hk01 : k = 1 := by omega
          subst hk01
          refine Exec.reg ?_
          iterate 3 (refine Run.op (by simp only [go_sem, hx, hne, hpw, bne_self_eq_false, hx9b] <;> rfl) (by simp only [go_sem] <;> rfl) ?_)
          refine Run.nil ?_
          refine Exec.reg ?_
          iterate 3 (refine Run.op (by simp only [go_sem, hx, hne, hpw, bne_self_eq_false, hx9b] <;> rfl) (by simp only [go_sem] <;> rfl) ?_)
          refine Run.nil ?_
          refine Exec.assocS ?_
          refine Exec.reg ?_
          refine Run.op (by simp only [go_sem, hx, hne, hpw, bne_self_eq_false, hx9b] <;> rfl) (by simp only [go_sem] <;> rfl) ?_
          refine Run.nil ?_
          refine Exec.cndS (by simp only [go_sem, hx, hne, hpw, bne_self_eq_false, hx9b] <;> rfl) (fun hb36 => ?_) (fun hb36 => ?_)
          · exact absurd hb36 (by simp)
          · skip
            skip
            refine Exec.assocS ?_
            refine Exec.opk 9 ?_
            refine OpenK.op (by simp only [go_sem, hx, hne, hpw, bne_self_eq_false, hx9b] <;> rfl) (by simp only [go_sem] <;> rfl) (by simp only [go_sem] <;> rfl) ?_
            refine OpenK.op (by simp only [go_sem, hx, hne, hpw, bne_self_eq_false, hx9b] <;> rfl) (by simp only [go_sem] <;> rfl) (by simp only [go_sem] <;> rfl) ?_
            refine OpenK.op (by simp only [go_sem, hx, hne, hpw, bne_self_eq_false, hx9b] <;> rfl) (by simp only [go_sem] <;> rfl) (by simp only [go_sem] <;> rfl) ?_
            refine OpenK.op (by simp only [go_sem, hx, hne, hpw, bne_self_eq_false, hx9b] <;> rfl) (by simp only [go_sem] <;> rfl) (by simp only [go_sem] <;> rfl) ?_
            refine OpenK.op (by simp only [go_sem, hx, hne, hpw, bne_self_eq_false, hx9b]; (try simp (disch := omega) only [if_pos]); (try simp only [go_sem, hx, hne, hpw, bne_self_eq_false, hx9b])<;> rfl) (by simp only [go_sem] <;> rfl) (by simp only [go_sem] <;> rfl) ?_
            refine OpenK.op (by simp only [go_sem, hx, hne, hpw, bne_self_eq_false, hx9b] <;> rfl) (by simp only [go_sem] <;> rfl) (by simp only [go_sem] <;> rfl) ?_
            refine OpenK.op (by simp only [go_sem, hx, hne, hpw, bne_self_eq_false, hx9b] <;> rfl) (by simp only [go_sem] <;> rfl) (by simp only [go_sem] <;> rfl) ?_
            refine OpenK.nil (OpenE.fin (by decide +kernel) (by decide +kernel) ?_)
            refine Exec.cndS (by simp only [go_sem, hx, hne, hpw, bne_self_eq_false, hx9b] <;> rfl) (fun hb52 => ?_) (fun hb52 => ?_)
            · skip
              have hvr := vR_1f m x r b (1000 * pow10 k0) lo hi
              refine Exec.exitS ?_
              refine BlkK.hit ?_
              refine Exec.reg1 ?_
              refine Run.op (by simp only [go_sem, hx, hne, hpw, bne_self_eq_false, hx9b, hvr]; (try simp (disch := omega) only [IntWalk.i64_in, IntWalk.u64_in, if_neg, if_pos])<;> rfl) (by simp only [go_sem] <;> rfl) ?_
              refine Run.op (by simp only [go_sem, hx, hne, hpw, bne_self_eq_false, hx9b, hvr] <;> rfl) (by simp only [go_sem] <;> rfl) ?_
              refine Run.nil ?_
              refine ForK.nxt ?_ ?_ ?_
              · omega
              · exact Ghost.kp [0, 1, 2, 3, 5, 8, 13, 31, 32] [13, 900, 901, 902, 903] (by simp only [go_sem, hx, hne, hpw, bne_self_eq_false, hx9b, hvr]; first | ((repeat' (first | with_reducible_and_instances rfl | refine st_eq ?_ ?_ ?_ | refine ret_eq ?_ | refine tup_eq ?_ | refine tm_eq ?_ ?_ | refine arr_eq ?_ | refine cells_eq ?_ | refine val_eq ?_ | refine ls_eq ?_ ?_ | refine own_eq ?_ ?_ | refine sl_eq ?_ | refine b_eq ?_ | (refine i_eq ?_; omega))); done) | rfl)
              · trivial
            · exact absurd hb52 (by simp)
      · skip
        have hke : k = 2 := by have := of_decide_eq_false hb33; omega
        subst hke
        have hvr := vR_two m x r b (1000 * pow10 k0) false lo hi
        refine Exec.exitS ?_
        refine ForK.ext ?_
        refine BlkK.hit ?_
        refine Exec.reg ?_
        refine Run.op (by simp only [go_sem, hx, hne, hpw, bne_self_eq_false, hx9b, hvr, yB_nil, List.map_nil] <;> rfl) (by simp only [go_sem] <;> rfl) ?_
        refine Run.nil ?_
        exact Ends.fin [900, 901, 902, 903] (rs := [.tmp 14]) rfl (by simp only [go_sem, hx, hne, hpw, bne_self_eq_false, hx9b, hvr, yB_nil, List.map_nil] <;> rfl) (by simp only [go_sem, hx, hne, hpw, bne_self_eq_false, hx9b, hvr, yB_nil, List.map_nil] <;> first | rfl | ((repeat' (first | with_reducible_and_instances rfl | refine st_eq ?_ ?_ ?_ | refine ret_eq ?_ | refine tup_eq ?_ | refine tm_eq ?_ ?_ | refine arr_eq ?_ | refine cells_eq ?_ | refine val_eq ?_ | refine ls_eq ?_ ?_ | refine own_eq ?_ ?_ | refine sl_eq ?_ | refine b_eq ?_ | (refine i_eq ?_; omega))); done))

set_option maxRecDepth 20000 in
set_option maxHeartbeats 16000000 in
/-- meterworks/drum.totals_1_1 -/
theorem c_from_true (fs : List Int) (m : Int) (hm : 0 ≤ m ∧ m ≤ 999) (hl : fs.length ≤ 6) (hfs : ∀ x ∈ fs, 0 ≤ x ∧ x ≤ 9) (k0 : Nat) (hk : k0 < fs.length) (hk1 : 1 ≤ k0) (ih : ∀ (b lo hi : Int) (ch : Bool), (0 ≤ b ∧ b ≤ 1000 * pow10 (k0 + 1)) → (0 ≤ lo ∧ lo ≤ 1000) → (0 ≤ hi ∧ hi ≤ 1000) → Con Try.prog 53 [.int ((k0 + 1 : Nat) : Int), .int b, .int (1000 * pow10 (k0 + 1)), .bool ch, spanV ⟨lo, hi⟩, .leaf (.d (.pt [intsD fs])), .leaf (.ptr 901 0), .leaf (.d (.pt [.i m])), .leaf (.ptr 902 0)] (fromQ fs m) (yB ((totR m (fs.drop (k0 + 1)) b (1000 * pow10 (k0 + 1)) ch lo hi).map encTot) (retB (fromQ fs m)))) (b lo hi : Int) (hb : 0 ≤ b ∧ b ≤ 1000 * pow10 k0) (hlo : 0 ≤ lo ∧ lo ≤ 1000) (hhi : 0 ≤ hi ∧ hi ≤ 1000) : Con Try.prog 53 [.int (k0 : Int), .int b, .int (1000 * pow10 k0), .bool true, spanV ⟨lo, hi⟩, .leaf (.d (.pt [intsD fs])), .leaf (.ptr 901 0), .leaf (.d (.pt [.i m])), .leaf (.ptr 902 0)] (fromQ fs m) (yB ((totR m (fs.drop k0) b (1000 * pow10 k0) true lo hi).map encTot) (retB (fromQ fs m))) := by
  obtain ⟨x, hx⟩ : ∃ x, fs[k0]? = some x := ⟨_, List.getElem?_eq_getElem (by omega)⟩
  have hxb := hfs x (List.mem_of_getElem? hx)
  have hdr : fs.drop k0 = x :: fs.drop (k0 + 1) := by
    obtain ⟨h1, rfl⟩ := List.getElem?_eq_some_iff.1 hx
    exact (List.getElem_cons_drop h1).symm
  obtain ⟨r, hr⟩ : ∃ r, fs.drop (k0 + 1) = r := ⟨_, rfl⟩
  have hp := pow_le6 (k := k0) (by omega)
  have hps := pow10_succ k0
  have hpw : 10 * (1000 * pow10 k0) = 1000 * pow10 (k0 + 1) := by omega
  have m1 : 0 ≤ x * (1000 * pow10 k0) ∧ x * (1000 * pow10 k0) ≤ 9 * (1000 * pow10 k0) := ⟨Int.mul_nonneg (by omega) (by omega), Int.mul_le_mul_of_nonneg_right (by omega) (by omega)⟩
  have m2 : 0 ≤ (x + 9) % 10 * (1000 * pow10 k0) ∧ (x + 9) % 10 * (1000 * pow10 k0) ≤ 9 * (1000 * pow10 k0) := ⟨Int.mul_nonneg (by omega) (by omega), Int.mul_le_mul_of_nonneg_right (by omega) (by omega)⟩
  rw [hr] at hdr
  rw [hr] at ih
  have hne : ((k0 : Int) == (fs.length : Int)) = false := by rw [beq_eq_false_iff_ne]; omega
  have hx9 : ¬ (x + 9) % 10 = x := by omega
  have hx9b : ((x + 9) % 10 != x) = true := by simpa using hx9
  rw [hdr]
  rw [← vR_zero]
  refine con_of follows_mixed Try.func53 rfl (by simp only [List.length_cons, List.length_nil, Try.ntmps53]; omega) (by kernel_rfl) rfl ?_
  refine Exec.reg ?_
  iterate 2 (refine Run.op (by simp only [go_sem, hx, hne, hpw, bne_self_eq_false, hx9b] <;> rfl) (by simp only [go_sem] <;> rfl) ?_)
  refine Run.nil ?_
  refine Exec.scp ?_
  refine Exec.assocS ?_
  refine Exec.reg ?_
  iterate 4 (refine Run.op (by simp only [go_sem, hx, hne, hpw, bne_self_eq_false, hx9b] <;> rfl) (by simp only [go_sem] <;> rfl) ?_)
  refine Run.nil ?_
  refine Exec.cndS (by simp only [go_sem, hx, hne, hpw, bne_self_eq_false, hx9b] <;> rfl) (fun hb21 => ?_) (fun hb21 => ?_)
  · skip
    exact absurd hb21 (by simp [hne])
  · skip
    refine Exec.skipS ?_
    refine Exec.lblS ?_
    refine Exec.assocS ?_
    refine Exec.opk 9 ?_
    refine OpenK.op (by simp only [go_sem, hx, hne, hpw, bne_self_eq_false, hx9b] <;> rfl) (by simp only [go_sem] <;> rfl) (by simp only [go_sem] <;> rfl) ?_
    refine OpenK.op (by simp only [go_sem, hx, hne, hpw, bne_self_eq_false, hx9b] <;> rfl) (by simp only [go_sem] <;> rfl) (by simp only [go_sem] <;> rfl) ?_
    refine OpenK.op (by simp only [go_sem, hx, hne, hpw, bne_self_eq_false, hx9b]; (try simp (disch := omega) only [if_pos]); (try simp only [go_sem, hx, hne, hpw, bne_self_eq_false, hx9b])<;> rfl) (by simp only [go_sem] <;> rfl) (by simp only [go_sem] <;> rfl) ?_
    refine OpenK.op (by simp only [go_sem, hx, hne, hpw, bne_self_eq_false, hx9b] <;> rfl) (by simp only [go_sem] <;> rfl) (by simp only [go_sem] <;> rfl) ?_
    refine OpenK.op (by simp only [go_sem, hx, hne, hpw, bne_self_eq_false, hx9b] <;> rfl) (by simp only [go_sem] <;> rfl) (by simp only [go_sem] <;> rfl) ?_
    refine OpenK.cal (c_drum_options x m hxb) (by simp only [go_sem]) (by simp only [go_sem, hx, hne, hpw, bne_self_eq_false, hx9b] <;> rfl) (by exact ⟨by first | exact WkR.pure rfl | exact WkR.nil _ | exact WkR.int (by first | omega | (simp; done) | (simp; omega)), by first | exact WkR.pure rfl | exact WkR.nil _ | exact WkR.int (by first | omega | (simp; done) | (simp; omega)), trivial⟩) (fr0) (by simp only [go_sem, hx, hne, hpw, bne_self_eq_false, hx9b] <;> rfl) (by simp only [go_sem] <;> rfl) (by simp only [go_sem] <;> rfl) ?_
    refine OpenK.op (by simp only [go_sem, hx, hne, hpw, bne_self_eq_false, hx9b] <;> rfl) (by simp only [go_sem] <;> rfl) (by simp only [go_sem] <;> rfl) ?_
    refine OpenK.nil (OpenE.fin (by decide +kernel) (by decide +kernel) ?_)
    refine Exec.blk ?_
    refine Exec.forY [0, 1, 2, 3, 5, 8, 13, 31, 32] [13, 900, 901, 902, 903] (2) (fun k => [.slot 32 (.int k)]) (fun k => yB ((vR m x r b (1000 * pow10 k0) true lo hi k).map encTot) (retB (fromQ fs m))) (fun _ => True) (fun k => by simp only [go_sem] <;> rfl) (by simp only [go_sem, hx, hne, hpw, bne_self_eq_false, hx9b] <;> rfl) ?_ (fun k hk hX => ?_)
    · trivial
    · skip
      refine Exec.reg ?_
      refine Run.op (by simp only [go_sem, hx, hne, hpw, bne_self_eq_false, hx9b] <;> rfl) (by simp only [go_sem] <;> rfl) ?_
      refine Run.nil ?_
      refine Exec.cndS (by simp only [go_sem, hx, hne, hpw, bne_self_eq_false, hx9b] <;> rfl) (fun hb33 => ?_) (fun hb33 => ?_)
      · skip
        have hlt : k < 2 := by have := of_decide_eq_true hb33; omega
        refine Exec.skipS ?_
        refine Exec.blk ?_
        by_cases hk0 : k = 0
        · skip
          subst hk0
          refine Exec.reg ?_
          iterate 3 (refine Run.op (by simp only [go_sem, hx, hne, hpw, bne_self_eq_false, hx9b, Int.natCast_zero, Int.toNat_zero, Nat.zero_mul] <;> rfl) (by simp only [go_sem] <;> rfl) ?_)
          refine Run.nil ?_
          refine Exec.reg ?_
          iterate 3 (refine Run.op (by simp only [go_sem, hx, hne, hpw, bne_self_eq_false, hx9b, Int.natCast_zero, Int.toNat_zero, Nat.zero_mul] <;> rfl) (by simp only [go_sem] <;> rfl) ?_)
          refine Run.nil ?_
          refine Exec.assocS ?_
          refine Exec.reg ?_
          refine Run.op (by simp only [go_sem, hx, hne, hpw, bne_self_eq_false, hx9b, Int.natCast_zero, Int.toNat_zero, Nat.zero_mul] <;> rfl) (by simp only [go_sem] <;> rfl) ?_
          refine Run.nil ?_
          refine Exec.cndS (by simp only [go_sem, hx, hne, hpw, bne_self_eq_false, hx9b, Int.natCast_zero, Int.toNat_zero, Nat.zero_mul] <;> rfl) (fun hb36 => ?_) (fun hb36 => ?_)
          · skip
            skip
            refine Exec.assocS ?_
            refine Exec.reg ?_
            iterate 3 (refine Run.op (by simp only [go_sem, hx, hne, hpw, bne_self_eq_false, hx9b, Int.natCast_zero, Int.toNat_zero, Nat.zero_mul] <;> rfl) (by simp only [go_sem] <;> rfl) ?_)
            refine Run.calw (by simp only [go_sem] <;> rfl) (c_options_1 ⟨lo, hi⟩ m) (by simp only [go_sem]) (by simp only [go_sem, hx, hne, hpw, bne_self_eq_false, hx9b, Int.natCast_zero, Int.toNat_zero, Nat.zero_mul] <;> rfl) (by simp only [go_sem, hx, hne, hpw, bne_self_eq_false, hx9b, Int.natCast_zero, Int.toNat_zero, Nat.zero_mul] <;> rfl) (by exact ⟨by first | exact WkR.pure rfl | exact WkR.nil _ | exact WkR.int (by first | omega | (simp; done) | (simp; omega)), by first | exact WkR.pure rfl | exact WkR.nil _ | exact WkR.int (by first | omega | (simp; done) | (simp; omega)), trivial⟩) (fr0) (by simp only [go_sem, hx, hne, hpw, bne_self_eq_false, hx9b, Int.natCast_zero, Int.toNat_zero, Nat.zero_mul] <;> rfl) ?_
            refine Run.op (by simp only [go_sem, hx, hne, hpw, bne_self_eq_false, hx9b, Int.natCast_zero, Int.toNat_zero, Nat.zero_mul] <;> rfl) (by simp only [go_sem] <;> rfl) ?_
            refine Run.nil ?_
            refine Exec.assocS ?_
            refine Exec.reg ?_
            iterate 5 (refine Run.op (by simp only [go_sem, hx, hne, hpw, bne_self_eq_false, hx9b, Int.natCast_zero, Int.toNat_zero, Nat.zero_mul] <;> rfl) (by simp only [go_sem] <;> rfl) ?_)
            refine Run.nil ?_
            refine Exec.cndS (by simp only [go_sem, hx, hne, hpw, bne_self_eq_false, hx9b, Int.natCast_zero, Int.toNat_zero, Nat.zero_mul] <;> rfl) (fun hb45 => ?_) (fun hb45 => ?_)
            · skip
              have hgt := of_decide_eq_true hb45
              have hvr := vR_0n m x r b (1000 * pow10 k0) lo hi hgt
              refine Exec.exitS ?_
              refine BlkK.hit ?_
              refine Exec.reg1 ?_
              refine Run.op (by simp only [go_sem, hx, hne, hpw, bne_self_eq_false, hx9b, Int.natCast_zero, Int.toNat_zero, Nat.zero_mul, hvr]; (try simp (disch := omega) only [IntWalk.i64_in, IntWalk.u64_in, if_neg, if_pos])<;> rfl) (by simp only [go_sem] <;> rfl) ?_
              refine Run.op (by simp only [go_sem, hx, hne, hpw, bne_self_eq_false, hx9b, Int.natCast_zero, Int.toNat_zero, Nat.zero_mul, hvr] <;> rfl) (by simp only [go_sem] <;> rfl) ?_
              refine Run.nil ?_
              refine ForK.nxt ?_ ?_ ?_
              · omega
              · exact Ghost.kp [0, 1, 2, 3, 5, 8, 13, 31, 32] [13, 900, 901, 902, 903] (by simp only [go_sem, hx, hne, hpw, bne_self_eq_false, hx9b, Int.natCast_zero, Int.toNat_zero, Nat.zero_mul, hvr]; first | ((repeat' (first | with_reducible_and_instances rfl | refine st_eq ?_ ?_ ?_ | refine ret_eq ?_ | refine tup_eq ?_ | refine tm_eq ?_ ?_ | refine arr_eq ?_ | refine cells_eq ?_ | refine val_eq ?_ | refine ls_eq ?_ ?_ | refine own_eq ?_ ?_ | refine sl_eq ?_ | refine b_eq ?_ | (refine i_eq ?_; omega))); done) | rfl)
              · trivial
            · skip
              have hgt : ¬ lo > min hi m := of_decide_eq_false hb45
              have hvr := vR_0t m x r b (1000 * pow10 k0) lo hi hgt
              refine Exec.skipS ?_
              refine Exec.reg ?_
              iterate 2 (refine Run.op (by simp only [go_sem, hx, hne, hpw, bne_self_eq_false, hx9b, Int.natCast_zero, Int.toNat_zero, Nat.zero_mul] <;> rfl) (by simp only [go_sem] <;> rfl) ?_)
              refine Run.op (by simp only [go_sem, hx, hne, hpw, bne_self_eq_false, hx9b, Int.natCast_zero, Int.toNat_zero, Nat.zero_mul]; (try simp (disch := omega) only [IntWalk.i64_in, IntWalk.u64_in, if_neg, if_pos])<;> rfl) (by simp only [go_sem] <;> rfl) ?_
              iterate 4 (refine Run.op (by simp only [go_sem, hx, hne, hpw, bne_self_eq_false, hx9b, Int.natCast_zero, Int.toNat_zero, Nat.zero_mul] <;> rfl) (by simp only [go_sem] <;> rfl) ?_)
              refine Run.op (by simp only [go_sem, hx, hne, hpw, bne_self_eq_false, hx9b, Int.natCast_zero, Int.toNat_zero, Nat.zero_mul]; (try simp (disch := omega) only [IntWalk.i64_in, IntWalk.u64_in, if_neg, if_pos])<;> rfl) (by simp only [go_sem] <;> rfl) ?_
              refine Run.op (by simp only [go_sem, hx, hne, hpw, bne_self_eq_false, hx9b, Int.natCast_zero, Int.toNat_zero, Nat.zero_mul]; (try simp (disch := omega) only [IntWalk.i64_in, IntWalk.u64_in, if_neg, if_pos])<;> rfl) (by simp only [go_sem] <;> rfl) ?_
              refine Run.op (by simp only [go_sem, hx, hne, hpw, bne_self_eq_false, hx9b, Int.natCast_zero, Int.toNat_zero, Nat.zero_mul] <;> rfl) (by simp only [go_sem] <;> rfl) ?_
              refine Run.op (by simp only [go_sem, hx, hne, hpw, bne_self_eq_false, hx9b, Int.natCast_zero, Int.toNat_zero, Nat.zero_mul]; (try simp (disch := omega) only [IntWalk.i64_in, IntWalk.u64_in, if_neg, if_pos])<;> rfl) (by simp only [go_sem] <;> rfl) ?_
              iterate 2 (refine Run.op (by simp only [go_sem, hx, hne, hpw, bne_self_eq_false, hx9b, Int.natCast_zero, Int.toNat_zero, Nat.zero_mul] <;> rfl) (by simp only [go_sem] <;> rfl) ?_)
              refine Run.gop (by simp only [go_sem] <;> rfl) (by simp only [go_sem, hx, hne, hpw, bne_self_eq_false, hx9b, Int.natCast_zero, Int.toNat_zero, Nat.zero_mul] <;> rfl) (by simp only [go_sem] <;> rfl) ?_
              refine Run.gop (by simp only [go_sem] <;> rfl) (by simp only [go_sem, hx, hne, hpw, bne_self_eq_false, hx9b, Int.natCast_zero, Int.toNat_zero, Nat.zero_mul] <;> rfl) (by simp only [go_sem] <;> rfl) ?_
              refine Run.gop (by simp only [go_sem] <;> rfl) (by simp only [go_sem, hx, hne, hpw, bne_self_eq_false, hx9b, Int.natCast_zero, Int.toNat_zero, Nat.zero_mul] <;> rfl) (by simp only [go_sem] <;> rfl) ?_
              iterate 2 (refine Run.op (by simp only [go_sem, hx, hne, hpw, bne_self_eq_false, hx9b, Int.natCast_zero, Int.toNat_zero, Nat.zero_mul] <;> rfl) (by simp only [go_sem] <;> rfl) ?_)
              refine Run.callF [(900, 900), (901, 901), (902, 902), (903, 903)] (fun t => bif t then yB ((vR m x r b (1000 * pow10 k0) true lo hi 1).map encTot) (retB (fromQ fs m)) else retB (fromQ fs m) false) (ih (b + x * (1000 * pow10 k0)) lo (min hi m) (x == 9) (by omega) (by omega) (by omega)) (by simp only [go_sem]) (.inr ⟨903, by simp only [go_sem] <;> rfl, by simp only [go_sem] <;> rfl⟩) (by simp only [go_sem] <;> rfl) (by exact ⟨WkR.int (by first | rfl | omega), WkR.int (by first | rfl | omega), WkR.int (by first | rfl | omega), WkR.pure rfl, WkR.pure rfl, WkR.pure rfl, WkR.of rfl rfl, WkR.pure rfl, WkR.of rfl rfl, trivial⟩) (fromQ_ok fs m rfl (by decide) (fun n hn => by cases hn; simp only [go_sem] <;> rfl) (fun n hn => by cases hn; simp only [go_sem] <;> rfl) (fun n hn => by cases hn; simp only [go_sem] <;> rfl) (fun n hn => by cases hn; simp only [go_sem] <;> rfl)) (by simp only [go_sem, hvr, yB_app, hpw] <;> rfl) (fun t => ?_)
              refine Run.op (by simp only [go_sem, hx, hne, hpw, bne_self_eq_false, hx9b, Int.natCast_zero, Int.toNat_zero, Nat.zero_mul] <;> rfl) (by simp only [go_sem] <;> rfl) ?_
              refine Run.nil ?_
              refine Exec.cnd (by simp only [go_sem, hx, hne, hpw, bne_self_eq_false, hx9b, Int.natCast_zero, Int.toNat_zero, Nat.zero_mul] <;> rfl) (fun hb72 => ?_) (fun hb72 => ?_)
              · skip
                have ht : t = false := by simpa using hb72
                subst ht
                refine Exec.reg ?_
                refine Run.op (by simp only [go_sem, hx, hne, hpw, bne_self_eq_false, hx9b, Int.natCast_zero, Int.toNat_zero, Nat.zero_mul] <;> rfl) (by simp only [go_sem] <;> rfl) ?_
                refine Run.nil ?_
                refine BlkK.ret ?_
                refine ForK.ret ?_
                refine BlkK.ret ?_
                exact Ends.fin [900, 901, 902, 903] (rs := [.tmp 14]) rfl (by simp only [go_sem, hx, hne, hpw, bne_self_eq_false, hx9b, Int.natCast_zero, Int.toNat_zero, Nat.zero_mul] <;> rfl) (by simp only [go_sem, hx, hne, hpw, bne_self_eq_false, hx9b, Int.natCast_zero, Int.toNat_zero, Nat.zero_mul] <;> first | rfl | ((repeat' (first | with_reducible_and_instances rfl | refine st_eq ?_ ?_ ?_ | refine ret_eq ?_ | refine tup_eq ?_ | refine tm_eq ?_ ?_ | refine arr_eq ?_ | refine cells_eq ?_ | refine val_eq ?_ | refine ls_eq ?_ ?_ | refine own_eq ?_ ?_ | refine sl_eq ?_ | refine b_eq ?_ | (refine i_eq ?_; omega))); done))
              · skip
                have ht : t = true := by simpa using hb72
                subst ht
                refine BlkK.nrm ?_
                refine Exec.reg1 ?_
                refine Run.op (by simp only [go_sem, hx, hne, hpw, bne_self_eq_false, hx9b, Int.natCast_zero, Int.toNat_zero, Nat.zero_mul]; (try simp (disch := omega) only [IntWalk.i64_in, IntWalk.u64_in, if_neg, if_pos])<;> rfl) (by simp only [go_sem] <;> rfl) ?_
                refine Run.op (by simp only [go_sem, hx, hne, hpw, bne_self_eq_false, hx9b, Int.natCast_zero, Int.toNat_zero, Nat.zero_mul] <;> rfl) (by simp only [go_sem] <;> rfl) ?_
                refine Run.nil ?_
                refine ForK.nxt ?_ ?_ ?_
                · omega
                · exact Ghost.kp [0, 1, 2, 3, 5, 8, 13, 31, 32] [13, 900, 901, 902, 903] (by simp only [go_sem, hx, hne, hpw, bne_self_eq_false, hx9b, Int.natCast_zero, Int.toNat_zero, Nat.zero_mul]; first | ((repeat' (first | with_reducible_and_instances rfl | refine st_eq ?_ ?_ ?_ | refine ret_eq ?_ | refine tup_eq ?_ | refine tm_eq ?_ ?_ | refine arr_eq ?_ | refine cells_eq ?_ | refine val_eq ?_ | refine ls_eq ?_ ?_ | refine own_eq ?_ ?_ | refine sl_eq ?_ | refine b_eq ?_ | (refine i_eq ?_; omega))); done) | rfl)
                · trivial
          · exact absurd hb36 (by simp)
        · skip
          have hk01 : k = 1 := by omega
          subst hk01
          refine Exec.reg ?_
          iterate 3 (refine Run.op (by simp only [go_sem, hx, hne, hpw, bne_self_eq_false, hx9b] <;> rfl) (by simp only [go_sem] <;> rfl) ?_)
          refine Run.nil ?_
          refine Exec.reg ?_
          iterate 3 (refine Run.op (by simp only [go_sem, hx, hne, hpw, bne_self_eq_false, hx9b] <;> rfl) (by simp only [go_sem] <;> rfl) ?_)
          refine Run.nil ?_
          refine Exec.assocS ?_
          refine Exec.reg ?_
          refine Run.op (by simp only [go_sem, hx, hne, hpw, bne_self_eq_false, hx9b] <;> rfl) (by simp only [go_sem] <;> rfl) ?_
          refine Run.nil ?_
          refine Exec.cndS (by simp only [go_sem, hx, hne, hpw, bne_self_eq_false, hx9b] <;> rfl) (fun hb36 => ?_) (fun hb36 => ?_)
          · skip
            skip
            refine Exec.assocS ?_
            refine Exec.reg ?_
            iterate 3 (refine Run.op (by simp only [go_sem, hx, hne, hpw, bne_self_eq_false, hx9b] <;> rfl) (by simp only [go_sem] <;> rfl) ?_)
            refine Run.calw (by simp only [go_sem] <;> rfl) (c_options_2 ⟨lo, hi⟩ m hm) (by simp only [go_sem]) (by simp only [go_sem, hx, hne, hpw, bne_self_eq_false, hx9b] <;> rfl) (by simp only [go_sem, hx, hne, hpw, bne_self_eq_false, hx9b] <;> rfl) (by exact ⟨by first | exact WkR.pure rfl | exact WkR.nil _ | exact WkR.int (by first | omega | (simp; done) | (simp; omega)), by first | exact WkR.pure rfl | exact WkR.nil _ | exact WkR.int (by first | omega | (simp; done) | (simp; omega)), trivial⟩) (fr0) (by simp only [go_sem, hx, hne, hpw, bne_self_eq_false, hx9b] <;> rfl) ?_
            refine Run.op (by simp only [go_sem, hx, hne, hpw, bne_self_eq_false, hx9b] <;> rfl) (by simp only [go_sem] <;> rfl) ?_
            refine Run.nil ?_
            refine Exec.assocS ?_
            refine Exec.reg ?_
            iterate 5 (refine Run.op (by simp only [go_sem, hx, hne, hpw, bne_self_eq_false, hx9b] <;> rfl) (by simp only [go_sem] <;> rfl) ?_)
            refine Run.nil ?_
            refine Exec.cndS (by simp only [go_sem, hx, hne, hpw, bne_self_eq_false, hx9b] <;> rfl) (fun hb45 => ?_) (fun hb45 => ?_)
            · skip
              have hgt := of_decide_eq_true hb45
              have hvr := vR_1n m x r b (1000 * pow10 k0) lo hi hgt
              refine Exec.exitS ?_
              refine BlkK.hit ?_
              refine Exec.reg1 ?_
              refine Run.op (by simp only [go_sem, hx, hne, hpw, bne_self_eq_false, hx9b, hvr]; (try simp (disch := omega) only [IntWalk.i64_in, IntWalk.u64_in, if_neg, if_pos])<;> rfl) (by simp only [go_sem] <;> rfl) ?_
              refine Run.op (by simp only [go_sem, hx, hne, hpw, bne_self_eq_false, hx9b, hvr] <;> rfl) (by simp only [go_sem] <;> rfl) ?_
              refine Run.nil ?_
              refine ForK.nxt ?_ ?_ ?_
              · omega
              · exact Ghost.kp [0, 1, 2, 3, 5, 8, 13, 31, 32] [13, 900, 901, 902, 903] (by simp only [go_sem, hx, hne, hpw, bne_self_eq_false, hx9b, hvr]; first | ((repeat' (first | with_reducible_and_instances rfl | refine st_eq ?_ ?_ ?_ | refine ret_eq ?_ | refine tup_eq ?_ | refine tm_eq ?_ ?_ | refine arr_eq ?_ | refine cells_eq ?_ | refine val_eq ?_ | refine ls_eq ?_ ?_ | refine own_eq ?_ ?_ | refine sl_eq ?_ | refine b_eq ?_ | (refine i_eq ?_; omega))); done) | rfl)
              · trivial
            · skip
              have hgt : ¬ max lo (1000 - m) > hi := of_decide_eq_false hb45
              have hvr := vR_1t m x r b (1000 * pow10 k0) lo hi hgt
              refine Exec.skipS ?_
              refine Exec.reg ?_
              iterate 2 (refine Run.op (by simp only [go_sem, hx, hne, hpw, bne_self_eq_false, hx9b] <;> rfl) (by simp only [go_sem] <;> rfl) ?_)
              refine Run.op (by simp only [go_sem, hx, hne, hpw, bne_self_eq_false, hx9b]; (try simp (disch := omega) only [IntWalk.i64_in, IntWalk.u64_in, if_neg, if_pos])<;> rfl) (by simp only [go_sem] <;> rfl) ?_
              iterate 4 (refine Run.op (by simp only [go_sem, hx, hne, hpw, bne_self_eq_false, hx9b] <;> rfl) (by simp only [go_sem] <;> rfl) ?_)
              refine Run.op (by simp only [go_sem, hx, hne, hpw, bne_self_eq_false, hx9b]; (try simp (disch := omega) only [IntWalk.i64_in, IntWalk.u64_in, if_neg, if_pos])<;> rfl) (by simp only [go_sem] <;> rfl) ?_
              refine Run.op (by simp only [go_sem, hx, hne, hpw, bne_self_eq_false, hx9b]; (try simp (disch := omega) only [IntWalk.i64_in, IntWalk.u64_in, if_neg, if_pos])<;> rfl) (by simp only [go_sem] <;> rfl) ?_
              refine Run.op (by simp only [go_sem, hx, hne, hpw, bne_self_eq_false, hx9b] <;> rfl) (by simp only [go_sem] <;> rfl) ?_
              refine Run.op (by simp only [go_sem, hx, hne, hpw, bne_self_eq_false, hx9b]; (try simp (disch := omega) only [IntWalk.i64_in, IntWalk.u64_in, if_neg, if_pos])<;> rfl) (by simp only [go_sem] <;> rfl) ?_
              iterate 2 (refine Run.op (by simp only [go_sem, hx, hne, hpw, bne_self_eq_false, hx9b] <;> rfl) (by simp only [go_sem] <;> rfl) ?_)
              refine Run.gop (by simp only [go_sem] <;> rfl) (by simp only [go_sem, hx, hne, hpw, bne_self_eq_false, hx9b] <;> rfl) (by simp only [go_sem] <;> rfl) ?_
              refine Run.gop (by simp only [go_sem] <;> rfl) (by simp only [go_sem, hx, hne, hpw, bne_self_eq_false, hx9b] <;> rfl) (by simp only [go_sem] <;> rfl) ?_
              refine Run.gop (by simp only [go_sem] <;> rfl) (by simp only [go_sem, hx, hne, hpw, bne_self_eq_false, hx9b] <;> rfl) (by simp only [go_sem] <;> rfl) ?_
              iterate 2 (refine Run.op (by simp only [go_sem, hx, hne, hpw, bne_self_eq_false, hx9b] <;> rfl) (by simp only [go_sem] <;> rfl) ?_)
              refine Run.callF [(900, 900), (901, 901), (902, 902), (903, 903)] (fun t => bif t then yB ((vR m x r b (1000 * pow10 k0) true lo hi 2).map encTot) (retB (fromQ fs m)) else retB (fromQ fs m) false) (ih (b + (x + 9) % 10 * (1000 * pow10 k0)) (max lo (1000 - m)) hi ((x + 9) % 10 == 9) (by omega) (by omega) (by omega)) (by simp only [go_sem]) (.inr ⟨903, by simp only [go_sem] <;> rfl, by simp only [go_sem] <;> rfl⟩) (by simp only [go_sem] <;> rfl) (by exact ⟨WkR.int (by first | rfl | omega), WkR.int (by first | rfl | omega), WkR.int (by first | rfl | omega), WkR.pure rfl, WkR.pure rfl, WkR.pure rfl, WkR.of rfl rfl, WkR.pure rfl, WkR.of rfl rfl, trivial⟩) (fromQ_ok fs m rfl (by decide) (fun n hn => by cases hn; simp only [go_sem] <;> rfl) (fun n hn => by cases hn; simp only [go_sem] <;> rfl) (fun n hn => by cases hn; simp only [go_sem] <;> rfl) (fun n hn => by cases hn; simp only [go_sem] <;> rfl)) (by simp only [go_sem, hvr, yB_app, hpw] <;> rfl) (fun t => ?_)
              refine Run.op (by simp only [go_sem, hx, hne, hpw, bne_self_eq_false, hx9b] <;> rfl) (by simp only [go_sem] <;> rfl) ?_
              refine Run.nil ?_
              refine Exec.cnd (by simp only [go_sem, hx, hne, hpw, bne_self_eq_false, hx9b] <;> rfl) (fun hb72 => ?_) (fun hb72 => ?_)
              · skip
                have ht : t = false := by simpa using hb72
                subst ht
                refine Exec.reg ?_
                refine Run.op (by simp only [go_sem, hx, hne, hpw, bne_self_eq_false, hx9b] <;> rfl) (by simp only [go_sem] <;> rfl) ?_
                refine Run.nil ?_
                refine BlkK.ret ?_
                refine ForK.ret ?_
                refine BlkK.ret ?_
                exact Ends.fin [900, 901, 902, 903] (rs := [.tmp 14]) rfl (by simp only [go_sem, hx, hne, hpw, bne_self_eq_false, hx9b] <;> rfl) (by simp only [go_sem, hx, hne, hpw, bne_self_eq_false, hx9b] <;> first | rfl | ((repeat' (first | with_reducible_and_instances rfl | refine st_eq ?_ ?_ ?_ | refine ret_eq ?_ | refine tup_eq ?_ | refine tm_eq ?_ ?_ | refine arr_eq ?_ | refine cells_eq ?_ | refine val_eq ?_ | refine ls_eq ?_ ?_ | refine own_eq ?_ ?_ | refine sl_eq ?_ | refine b_eq ?_ | (refine i_eq ?_; omega))); done))
              · skip
                have ht : t = true := by simpa using hb72
                subst ht
                refine BlkK.nrm ?_
                refine Exec.reg1 ?_
                refine Run.op (by simp only [go_sem, hx, hne, hpw, bne_self_eq_false, hx9b]; (try simp (disch := omega) only [IntWalk.i64_in, IntWalk.u64_in, if_neg, if_pos])<;> rfl) (by simp only [go_sem] <;> rfl) ?_
                refine Run.op (by simp only [go_sem, hx, hne, hpw, bne_self_eq_false, hx9b] <;> rfl) (by simp only [go_sem] <;> rfl) ?_
                refine Run.nil ?_
                refine ForK.nxt ?_ ?_ ?_
                · omega
                · exact Ghost.kp [0, 1, 2, 3, 5, 8, 13, 31, 32] [13, 900, 901, 902, 903] (by simp only [go_sem, hx, hne, hpw, bne_self_eq_false, hx9b]; first | ((repeat' (first | with_reducible_and_instances rfl | refine st_eq ?_ ?_ ?_ | refine ret_eq ?_ | refine tup_eq ?_ | refine tm_eq ?_ ?_ | refine arr_eq ?_ | refine cells_eq ?_ | refine val_eq ?_ | refine ls_eq ?_ ?_ | refine own_eq ?_ ?_ | refine sl_eq ?_ | refine b_eq ?_ | (refine i_eq ?_; omega))); done) | rfl)
                · trivial
          · exact absurd hb36 (by simp)
      · skip
        have hke : k = 2 := by have := of_decide_eq_false hb33; omega
        subst hke
        have hvr := vR_two m x r b (1000 * pow10 k0) true lo hi
        refine Exec.exitS ?_
        refine ForK.ext ?_
        refine BlkK.hit ?_
        refine Exec.reg ?_
        refine Run.op (by simp only [go_sem, hx, hne, hpw, bne_self_eq_false, hx9b, hvr, yB_nil, List.map_nil] <;> rfl) (by simp only [go_sem] <;> rfl) ?_
        refine Run.nil ?_
        exact Ends.fin [900, 901, 902, 903] (rs := [.tmp 14]) rfl (by simp only [go_sem, hx, hne, hpw, bne_self_eq_false, hx9b, hvr, yB_nil, List.map_nil] <;> rfl) (by simp only [go_sem, hx, hne, hpw, bne_self_eq_false, hx9b, hvr, yB_nil, List.map_nil] <;> first | rfl | ((repeat' (first | with_reducible_and_instances rfl | refine st_eq ?_ ?_ ?_ | refine ret_eq ?_ | refine tup_eq ?_ | refine tm_eq ?_ ?_ | refine arr_eq ?_ | refine cells_eq ?_ | refine val_eq ?_ | refine ls_eq ?_ ?_ | refine own_eq ?_ ?_ | refine sl_eq ?_ | refine b_eq ?_ | (refine i_eq ?_; omega))); done))

theorem c_from (fs : List Int) (m : Int) (hm : 0 ≤ m ∧ m ≤ 999) (hl : fs.length ≤ 6) (hfs : ∀ x ∈ fs, 0 ≤ x ∧ x ≤ 9) : ∀ (n k0 : Nat), k0 + n = fs.length → 1 ≤ k0 → ∀ (b lo hi : Int) (ch : Bool), (0 ≤ b ∧ b ≤ 1000 * pow10 k0) → (0 ≤ lo ∧ lo ≤ 1000) → (0 ≤ hi ∧ hi ≤ 1000) → Con Try.prog 53 [.int (k0 : Int), .int b, .int (1000 * pow10 k0), .bool ch, spanV ⟨lo, hi⟩, .leaf (.d (.pt [intsD fs])), .leaf (.ptr 901 0), .leaf (.d (.pt [.i m])), .leaf (.ptr 902 0)] (fromQ fs m) (yB ((totR m (fs.drop k0) b (1000 * pow10 k0) ch lo hi).map encTot) (retB (fromQ fs m))) := by
  intro n
  induction n with
  | zero => intro k0 hk hk1 b lo hi ch hb hlo hhi; exact c_from_end fs m hm hl hfs k0 (by omega) b lo hi ch hb hlo hhi
  | succ n ih =>
    intro k0 hk hk1 b lo hi ch hb hlo hhi
    cases ch with
    | false => exact c_from_false fs m hm hl hfs k0 (by omega) hk1 (ih (k0 + 1) (by omega) (by omega)) b lo hi hb hlo hhi
    | true => exact c_from_true fs m hm hl hfs k0 (by omega) hk1 (ih (k0 + 1) (by omega) (by omega)) b lo hi hb hlo hhi
set_option maxRecDepth 20000 in
set_option maxHeartbeats 4000000 in
/-- meterworks/drum.totals_1 -/
theorem c_totals_1 (fs : List Int) (m : Int) (hm : 0 ≤ m ∧ m ≤ 999) (hf : figsB fs = true) : Con Try.prog 52 [.leaf (.obj 900), .leaf (.d (.pt [intsD fs])), .leaf (.d (.pt [.i m]))] [(900, .yl)] (lB ((totL m fs).map encTot)) := by
  obtain ⟨hfs, hl1, hl6⟩ := figs_iff.1 hf
  have hc := c_from fs m hm hl6 hfs (fs.length - 1) 1 (by omega) (by omega) 0 0 999 true (by decide) (by decide) (by decide)
  rw [← yB_lB]
  have e4 : (1000 : Int) * pow10 1 = 10000 := by decide
  rw [e4] at hc
  refine con_of follows_mixed Try.func52 rfl (by simp only [List.length_cons, List.length_nil, Try.ntmps52]; omega) (by kernel_rfl) rfl ?_
  refine Exec.reg ?_
  refine Run.op (by simp only [go_sem] <;> rfl) (by simp only [go_sem] <;> rfl) ?_
  refine Run.nil ?_
  refine Exec.reg ?_
  refine Run.op (by simp only [go_sem] <;> rfl) (by simp only [go_sem] <;> rfl) ?_
  refine Run.nil ?_
  refine Exec.reg ?_
  iterate 2 (refine Run.op (by simp only [go_sem] <;> rfl) (by simp only [go_sem] <;> rfl) ?_)
  refine Run.nil ?_
  refine Exec.reg1 ?_
  iterate 2 (refine Run.op (by simp only [go_sem] <;> rfl) (by simp only [go_sem] <;> rfl) ?_)
  refine Run.callF [(900, 900), (901, 3), (902, 4), (903, 5)] (fun _ => .ret (.tup []) []) (hc) (by simp only [go_sem]) (.inr ⟨5, by simp only [go_sem] <;> rfl, by simp only [go_sem] <;> rfl⟩) (by simp only [go_sem] <;> rfl) (by exact ⟨WkR.int (by first | rfl | omega), WkR.int (by first | rfl | omega), WkR.int (by first | rfl | omega), WkR.pure rfl, WkR.pure rfl, WkR.pure rfl, WkR.of rfl rfl, WkR.pure rfl, WkR.of rfl rfl, trivial⟩) (fromQ_ok fs m rfl (by decide) (fun n hn => by cases hn; simp only [go_sem] <;> rfl) (fun n hn => by cases hn; simp only [go_sem] <;> rfl) (fun n hn => by cases hn; simp only [go_sem] <;> rfl) (fun n hn => by cases hn; simp only [go_sem] <;> rfl)) (by rfl) (fun t => ?_)
  refine Run.nil ?_
  exact Ends.fin0 [] (rs := []) rfl (by simp only [go_sem] <;> rfl) (by simp only [go_sem] <;> first | rfl | ((repeat' (first | with_reducible_and_instances rfl | refine st_eq ?_ ?_ ?_ | refine ret_eq ?_ | refine tup_eq ?_ | refine tm_eq ?_ ?_ | refine arr_eq ?_ | refine cells_eq ?_ | refine val_eq ?_ | refine ls_eq ?_ ?_ | refine own_eq ?_ ?_ | refine sl_eq ?_ | refine b_eq ?_ | (refine i_eq ?_; omega))); done))

set_option maxRecDepth 20000 in
/-- meterworks/drum.totals -/
theorem c_drum_totals (fs : List Int) (m : Int) : Contract Try.prog 43 [.leaf (.d (intsD fs)), .int m] (.leaf (.d (.fn 52 [.pt [intsD fs], .pt [.i m]]))) [] := by
  refine con_of follows_mixed Try.func43 rfl (by simp only [List.length_cons, List.length_nil, Try.ntmps43]; omega) (by kernel_rfl) rfl ?_
  refine Exec.reg ?_
  iterate 3 (refine Run.op (by simp only [go_sem] <;> rfl) (by simp only [go_sem] <;> rfl) ?_)
  refine Run.nil ?_
  refine Exec.reg ?_
  refine Run.frz 2 (by simp only [go_sem] <;> rfl) ?_
  refine Run.frz 3 (by simp only [go_sem] <;> rfl) ?_
  iterate 2 (refine Run.op (by simp only [go_sem] <;> rfl) (by simp only [go_sem] <;> rfl) ?_)
  refine Run.nil ?_
  exact Ends.fin [] (rs := [.tmp 4]) rfl (by simp only [go_sem] <;> rfl) (by simp only [go_sem] <;> first | rfl | ((repeat' (first | with_reducible_and_instances rfl | refine st_eq ?_ ?_ ?_ | refine ret_eq ?_ | refine tup_eq ?_ | refine tm_eq ?_ ?_ | refine arr_eq ?_ | refine cells_eq ?_ | refine val_eq ?_ | refine ls_eq ?_ ?_ | refine own_eq ?_ ?_ | refine sl_eq ?_ | refine b_eq ?_ | (refine i_eq ?_; omega))); done))

end Go.Mw
namespace Go.Mw
open Go.Proofs
open Go.Dr
theorem join_bnd {l : List Go.Dr.Span} {a b : Int} (h : ∀ s ∈ l, a ≤ s.hi ∧ s.hi ≤ b) : ∀ y ∈ joinR l, a ≤ y.hi ∧ y.hi ≤ b := by
  have key : ∀ k, k ≤ l.length → ∀ y ∈ joinR (l.take k), a ≤ y.hi ∧ y.hi ≤ b := by
    intro k
    induction k with
    | zero => intro _ y hy; simp [joinR] at hy
    | succ k ih =>
      intro hk y hy
      have e : l.take (k + 1) = l.take k ++ [l[k]] := List.take_succ_eq_append_getElem (by omega)
      rw [e, join_snoc] at hy
      have hs := h l[k] (List.getElem_mem _)
      have ih := ih (by omega)
      generalize l[k] = s at *
      rcases snoc_cases (joinR (l.take k)) with h0 | ⟨o, z, h0⟩
      · rw [h0, jStep_nil] at hy
        rw [List.mem_singleton.1 hy]; exact hs
      · rw [h0] at hy ih
        rw [jStep_snoc] at hy
        have hz := ih z (by simp)
        split at hy
        · rcases List.mem_append.1 hy with hy | hy
          · exact ih y (by simp [hy])
          · rw [List.mem_singleton.1 hy]; simp only; omega
        · rcases List.mem_append.1 hy with hy | hy
          · exact ih y hy
          · rw [List.mem_singleton.1 hy]; exact hs
  have := key l.length (Nat.le_refl _)
  rwa [List.take_length] at this
theorem joinK {l : List Go.Dr.Span} {k : Nat} {s : Go.Dr.Span} (h : l[k]? = some s) : joinR (l.take (k + 1)) = jStep (joinR (l.take k)) s := by rw [take_succ_snoc h, join_snoc]
theorem join_len (l : List Go.Dr.Span) : ∀ k, k ≤ l.length → (joinR (l.take k)).length ≤ k := by
  intro k
  induction k with
  | zero => intro _; simp [joinR]
  | succ k ih =>
    intro hk
    have ih := ih (by omega)
    have e : l.take (k + 1) = l.take k ++ [l[k]] := List.take_succ_eq_append_getElem (by omega)
    rw [e, join_snoc]
    generalize l[k] = s
    rcases snoc_cases (joinR (l.take k)) with h0 | ⟨o, z, h0⟩
    · rw [h0, jStep_nil]; simp
    · rw [h0] at ih ⊢
      rw [jStep_snoc]
      split <;> simp at * <;> omega
theorem set_last {α : Type} (o : List α) (y z : α) : (o ++ [y]).set o.length z = o ++ [z] := by simp
set_option maxRecDepth 20000 in
set_option maxHeartbeats 4000000 in
/-- meterworks/drum.join[[]meterworks/api.Span] -/
theorem c_join (l : List Go.Dr.Span) (hl : l.length ≤ 1000) (hb : ∀ s ∈ l, -1000000000000 ≤ s.hi ∧ s.hi ≤ 1000000000000) : Contract Try.prog 47 [.leaf (.d (spansD l))] (.leaf (.d (spansD (joinR l)))) [] := by
  refine con_of follows_mixed Try.func47 rfl (by simp only [List.length_cons, List.length_nil, Try.ntmps47]; omega) (by kernel_rfl) rfl ?_
  refine Exec.reg ?_
  refine Run.op (by simp only [go_sem] <;> rfl) (by simp only [go_sem] <;> rfl) ?_
  refine Run.nil ?_
  refine Exec.assocS ?_
  refine Exec.reg ?_
  refine Run.nilo 2 1000 45 2 (by simp only [go_sem] <;> rfl) (by simp only [go_sem] <;> rfl) (by omega) (by omega) (by simp only [go_sem] <;> rfl) ?_
  iterate 3 (refine Run.op (by simp only [go_sem] <;> rfl) (by simp only [go_sem] <;> rfl) ?_)
  refine Run.nil ?_
  refine Exec.blk ?_
  refine Exec.forA [2, 6, 7, 8] [1000] (l.length) (fun k => [.slot 8 (.int k), .slot 2 (.leaf (.own 1000 0 (joinR (l.take k)).length (joinR (l.take k)).length)), .obj 1000 (.arr 45 2 ((joinR (l.take k)).map encSpan))]) (fun _ => True) (fun k => by simp only [go_sem] <;> rfl) (by simp only [go_sem, List.take_zero, Int.natCast_zero] <;> rfl) ?_ (fun k hk hX => ?_)
  · trivial
  · skip
    refine Exec.reg ?_
    refine Run.op (by simp only [go_sem] <;> rfl) (by simp only [go_sem] <;> rfl) ?_
    refine Run.nil ?_
    refine Exec.cndS (by simp only [go_sem] <;> rfl) (fun hb9 => ?_) (fun hb9 => ?_)
    · skip
      have hlt := lt_of_dec hb9
      obtain ⟨s, hs⟩ := elem_of hb9
      have hsu := joinK hs
      have hbd := join_bnd fun s hs => hb s (List.mem_of_mem_take (i := k) hs)
      have hjl := join_len l k (by omega)
      obtain ⟨J, hJ⟩ : ∃ J, joinR (l.take k) = J := ⟨_, rfl⟩
      rw [hJ] at hsu hbd hjl
      simp only [hJ]
      refine Exec.skipS ?_
      refine Exec.blk ?_
      refine Exec.reg ?_
      refine Run.op (by simp only [go_sem, hs]; (try simp (disch := omega) only [if_pos]); (try simp only [go_sem, hs])<;> rfl) (by simp only [go_sem] <;> rfl) ?_
      iterate 3 (refine Run.op (by simp only [go_sem, hs] <;> rfl) (by simp only [go_sem] <;> rfl) ?_)
      refine Run.nil ?_
      refine Exec.assocS ?_
      refine Exec.reg ?_
      iterate 3 (refine Run.op (by simp only [go_sem, hs] <;> rfl) (by simp only [go_sem] <;> rfl) ?_)
      refine Run.nil ?_
      refine Exec.assocS ?_
      by_cases hj : J = []
      · skip
        subst hj
        have hsu : joinR (l.take (k + 1)) = [s] := hsu
        refine Exec.opk 16 ?_
        refine OpenK.op (by simp only [go_sem, hs, List.length_nil, List.map_nil] <;> rfl) (by simp only [go_sem] <;> rfl) (by simp only [go_sem] <;> rfl) ?_
        refine OpenK.op (by simp only [go_sem, hs, List.length_nil, List.map_nil] <;> rfl) (by simp only [go_sem] <;> rfl) (by simp only [go_sem] <;> rfl) ?_
        refine OpenK.op (by simp only [go_sem, hs, List.length_nil, List.map_nil] <;> rfl) (by simp only [go_sem] <;> rfl) (by simp only [go_sem] <;> rfl) ?_
        refine OpenK.skp (by simp only [go_sem] <;> rfl) (by simp only [go_sem] <;> rfl) (by simp only [go_sem] <;> rfl) ?_
        refine OpenK.skp (by simp only [go_sem] <;> rfl) (by simp only [go_sem] <;> rfl) (by simp only [go_sem] <;> rfl) ?_
        refine OpenK.skp (by simp only [go_sem] <;> rfl) (by simp only [go_sem] <;> rfl) (by simp only [go_sem] <;> rfl) ?_
        refine OpenK.skp (by simp only [go_sem] <;> rfl) (by simp only [go_sem] <;> rfl) (by simp only [go_sem] <;> rfl) ?_
        refine OpenK.skp (by simp only [go_sem] <;> rfl) (by simp only [go_sem] <;> rfl) (by simp only [go_sem] <;> rfl) ?_
        refine OpenK.skp (by simp only [go_sem] <;> rfl) (by simp only [go_sem] <;> rfl) (by simp only [go_sem] <;> rfl) ?_
        refine OpenK.skp (by simp only [go_sem] <;> rfl) (by simp only [go_sem] <;> rfl) (by simp only [go_sem] <;> rfl) ?_
        refine OpenK.skp (by simp only [go_sem] <;> rfl) (by simp only [go_sem] <;> rfl) (by simp only [go_sem] <;> rfl) ?_
        refine OpenK.skp (by simp only [go_sem] <;> rfl) (by simp only [go_sem] <;> rfl) (by simp only [go_sem] <;> rfl) ?_
        refine OpenK.skp (by simp only [go_sem] <;> rfl) (by simp only [go_sem] <;> rfl) (by simp only [go_sem] <;> rfl) ?_
        refine OpenK.op (by simp only [go_sem, hs, List.length_nil, List.map_nil] <;> rfl) (by simp only [go_sem] <;> rfl) (by simp only [go_sem] <;> rfl) ?_
        refine OpenK.nil (OpenE.fin (by decide +kernel) (by decide +kernel) ?_)
        refine Exec.cndS (by simp only [go_sem, hs, List.length_nil, List.map_nil] <;> rfl) (fun hb27 => ?_) (fun hb27 => ?_)
        · exact absurd hb27 (by simp)
        · skip
          refine Exec.skipS ?_
          refine Exec.reg1 ?_
          iterate 3 (refine Run.op (by simp only [go_sem, hs, List.length_nil, List.map_nil] <;> rfl) (by simp only [go_sem] <;> rfl) ?_)
          refine Run.op (by simp only [go_sem, hs, List.length_nil, List.map_nil]; (try simp (disch := omega) only [if_pos]); (try simp only [go_sem, hs, List.length_nil, List.map_nil]) <;> first | (refine ite_run ⟨by (try simp only [List.length_append, List.length_drop, List.length_take, List.length_map, List.length_cons, List.length_nil, List.length_replicate, List.length_set, List.length_range, Nat.zero_add]); omega, by (try simp only [List.length_append, List.length_drop, List.length_take, List.length_map, List.length_cons, List.length_nil, List.length_replicate, List.length_set, List.length_range, Nat.zero_add]); omega, by repeat (first | exact al_nil | assumption | refine al_app ?_ ?_ | refine al_drop ?_ | refine al_take ?_ | exact al_map (fun _ => rfl) | exact al_rep rfl | refine al_cons rfl ?_)⟩ ?_; simp only [go_sem, hs, List.length_nil, List.map_nil] <;> rfl) | (refine ite_run ⟨by (try simp only [List.length_append, List.length_drop, List.length_take, List.length_map, List.length_cons, List.length_nil, List.length_replicate, List.length_set, List.length_range, Nat.zero_add]); omega, by repeat (first | exact al_nil | assumption | refine al_app ?_ ?_ | refine al_drop ?_ | refine al_take ?_ | exact al_map (fun _ => rfl) | exact al_rep rfl | refine al_cons rfl ?_)⟩ ?_; simp only [go_sem, hs, List.length_nil, List.map_nil] <;> rfl) | rfl) (by simp only [go_sem] <;> rfl) ?_
          refine Run.op (by simp only [go_sem, hs, List.length_nil, List.map_nil] <;> rfl) (by simp only [go_sem] <;> rfl) ?_
          refine Run.nil ?_
          refine BlkK.nrm ?_
          refine Exec.reg1 ?_
          refine Run.op (by simp only [go_sem, hs, List.length_nil, List.map_nil]; (try simp (disch := omega) only [IntWalk.i64_in, IntWalk.u64_in, if_neg, if_pos])<;> rfl) (by simp only [go_sem] <;> rfl) ?_
          refine Run.op (by simp only [go_sem, hs, List.length_nil, List.map_nil] <;> rfl) (by simp only [go_sem] <;> rfl) ?_
          refine Run.nil ?_
          refine ForK.nxt ?_ ?_ ?_
          · omega
          · exact Ghost.kp [2, 6, 7, 8] [1000] (by simp only [go_sem, hs, List.length_nil, List.map_nil]; first | ((repeat' (first | with_reducible_and_instances rfl | refine st_eq ?_ ?_ ?_ | refine ret_eq ?_ | refine tup_eq ?_ | refine tm_eq ?_ ?_ | refine arr_eq ?_ | refine cells_eq ?_ | refine val_eq ?_ | refine ls_eq ?_ ?_ | refine own_eq ?_ ?_ | refine sl_eq ?_ | refine b_eq ?_ | (refine i_eq ?_; omega))); (all_goals (simp [hsu, encSpan]))) | rfl)
          · trivial
      · skip
        obtain ⟨o, y, hoy⟩ : ∃ o y, J = o ++ [y] := by
          rcases snoc_cases J with h | h
          · exact absurd h hj
          · exact h
        subst hoy
        have hyb := hbd y (by simp)
        rw [jStep_snoc] at hsu
        have hol : o.length + 1 ≤ k := by simpa using hjl
        have g1 : decide (((o.length + 1 : Nat) : Int) > 0) = true := decide_eq_true (by omega)
        have t1 : (((o.length + 1 : Nat) : Int) - 1).toNat = o.length := by omega
        have hg : (o ++ [y])[o.length]? = some y := by simp
        refine Exec.opk 16 ?_
        refine OpenK.op (by simp only [go_sem, hs, g1, t1, hg] <;> rfl) (by simp only [go_sem] <;> rfl) (by simp only [go_sem] <;> rfl) ?_
        refine OpenK.op (by simp only [go_sem, hs, g1, t1, hg] <;> rfl) (by simp only [go_sem] <;> rfl) (by simp only [go_sem] <;> rfl) ?_
        refine OpenK.op (by simp only [go_sem, hs, g1, t1, hg] <;> rfl) (by simp only [go_sem] <;> rfl) (by simp only [go_sem] <;> rfl) ?_
        refine OpenK.yes (by simp only [go_sem] <;> rfl) (by simp only [go_sem, hs, g1, t1, hg] <;> rfl) (by simp only [go_sem] <;> rfl) (by simp only [go_sem] <;> rfl) ?_
        refine OpenK.yes (by simp only [go_sem] <;> rfl) (by simp only [go_sem, hs, g1, t1, hg] <;> rfl) (by simp only [go_sem] <;> rfl) (by simp only [go_sem] <;> rfl) ?_
        refine OpenK.yes (by simp only [go_sem] <;> rfl) (by simp only [go_sem, hs, g1, t1, hg] <;> rfl) (by simp only [go_sem] <;> rfl) (by simp only [go_sem] <;> rfl) ?_
        refine OpenK.yes (by simp only [go_sem] <;> rfl) (by simp only [go_sem, hs, g1, t1, hg] <;> rfl) (by simp only [go_sem] <;> rfl) (by simp only [go_sem] <;> rfl) ?_
        refine OpenK.yes (by simp only [go_sem] <;> rfl) (by simp only [go_sem, hs, g1, t1, hg]; (try simp (disch := omega) only [IntWalk.i64_in, IntWalk.u64_in, if_neg, if_pos])<;> rfl) (by simp only [go_sem] <;> rfl) (by simp only [go_sem] <;> rfl) ?_
        refine OpenK.yes (by simp only [go_sem] <;> rfl) (by simp only [go_sem, hs, g1, t1, hg]; (try simp (disch := omega) only [if_pos]); (try simp only [go_sem, hs, g1, t1, hg])<;> rfl) (by simp only [go_sem] <;> rfl) (by simp only [go_sem] <;> rfl) ?_
        refine OpenK.yes (by simp only [go_sem] <;> rfl) (by simp only [go_sem, hs, g1, t1, hg] <;> rfl) (by simp only [go_sem] <;> rfl) (by simp only [go_sem] <;> rfl) ?_
        refine OpenK.yes (by simp only [go_sem] <;> rfl) (by simp only [go_sem, hs, g1, t1, hg] <;> rfl) (by simp only [go_sem] <;> rfl) (by simp only [go_sem] <;> rfl) ?_
        refine OpenK.yes (by simp only [go_sem] <;> rfl) (by simp only [go_sem, hs, g1, t1, hg]; (try simp (disch := omega) only [IntWalk.i64_in, IntWalk.u64_in, if_neg, if_pos])<;> rfl) (by simp only [go_sem] <;> rfl) (by simp only [go_sem] <;> rfl) ?_
        refine OpenK.yes (by simp only [go_sem] <;> rfl) (by simp only [go_sem, hs, g1, t1, hg] <;> rfl) (by simp only [go_sem] <;> rfl) (by simp only [go_sem] <;> rfl) ?_
        refine OpenK.op (by simp only [go_sem, hs, g1, t1, hg] <;> rfl) (by simp only [go_sem] <;> rfl) (by simp only [go_sem] <;> rfl) ?_
        refine OpenK.nil (OpenE.fin (by decide +kernel) (by decide +kernel) ?_)
        refine Exec.cndS (by simp only [go_sem, hs, g1, t1, hg] <;> rfl) (fun hb27 => ?_) (fun hb27 => ?_)
        · skip
          have hle : s.lo ≤ y.hi + 1 := of_decide_eq_true hb27
          rw [if_pos hle] at hsu
          have hsl := set_last (o.map encSpan) (encSpan y) [D.i y.lo, D.i (max y.hi s.hi)]
          refine Exec.assocS ?_
          refine Exec.opk 17 ?_
          refine OpenK.op (by simp only [go_sem, hs, g1, t1, hg, pick_max] <;> rfl) (by simp only [go_sem] <;> rfl) (by simp only [go_sem] <;> rfl) ?_
          refine OpenK.op (by simp only [go_sem, hs, g1, t1, hg, pick_max] <;> rfl) (by simp only [go_sem] <;> rfl) (by simp only [go_sem] <;> rfl) ?_
          refine OpenK.op (by simp only [go_sem, hs, g1, t1, hg, pick_max]; (try simp (disch := omega) only [IntWalk.i64_in, IntWalk.u64_in, if_neg, if_pos])<;> rfl) (by simp only [go_sem] <;> rfl) (by simp only [go_sem] <;> rfl) ?_
          refine OpenK.op (by simp only [go_sem, hs, g1, t1, hg, pick_max] <;> rfl) (by simp only [go_sem] <;> rfl) (by simp only [go_sem] <;> rfl) ?_
          refine OpenK.op (by simp only [go_sem, hs, g1, t1, hg, pick_max] <;> rfl) (by simp only [go_sem] <;> rfl) (by simp only [go_sem] <;> rfl) ?_
          refine OpenK.op (by simp only [go_sem, hs, g1, t1, hg, pick_max]; (try simp (disch := omega) only [IntWalk.i64_in, IntWalk.u64_in, if_neg, if_pos])<;> rfl) (by simp only [go_sem] <;> rfl) (by simp only [go_sem] <;> rfl) ?_
          refine OpenK.op (by simp only [go_sem, hs, g1, t1, hg, pick_max]; (try simp (disch := omega) only [if_pos]); (try simp only [go_sem, hs, g1, t1, hg, pick_max])<;> rfl) (by simp only [go_sem] <;> rfl) (by simp only [go_sem] <;> rfl) ?_
          refine OpenK.op (by simp only [go_sem, hs, g1, t1, hg, pick_max] <;> rfl) (by simp only [go_sem] <;> rfl) (by simp only [go_sem] <;> rfl) ?_
          refine OpenK.op (by simp only [go_sem, hs, g1, t1, hg, pick_max] <;> rfl) (by simp only [go_sem] <;> rfl) (by simp only [go_sem] <;> rfl) ?_
          refine OpenK.op (by simp only [go_sem, hs, g1, t1, hg, pick_max] <;> rfl) (by simp only [go_sem] <;> rfl) (by simp only [go_sem] <;> rfl) ?_
          refine OpenK.op (by simp only [go_sem, hs, g1, t1, hg, pick_max] <;> rfl) (by simp only [go_sem] <;> rfl) (by simp only [go_sem] <;> rfl) ?_
          refine OpenK.op (by simp only [go_sem, hs, g1, t1, hg, pick_max] <;> rfl) (by simp only [go_sem] <;> rfl) (by simp only [go_sem] <;> rfl) ?_
          refine OpenK.op (by simp only [go_sem, hs, g1, t1, hg, pick_max]; (try simp (disch := omega) only [if_pos]); (try simp only [go_sem, hs, g1, t1, hg, pick_max])<;> rfl) (by simp only [go_sem] <;> rfl) (by simp only [go_sem] <;> rfl) ?_
          refine OpenK.op (by simp only [go_sem, hs, g1, t1, hg, pick_max] <;> rfl) (by simp only [go_sem] <;> rfl) (by simp only [go_sem] <;> rfl) ?_
          refine OpenK.op (by simp only [go_sem, hs, g1, t1, hg, pick_max] <;> rfl) (by simp only [go_sem] <;> rfl) (by simp only [go_sem] <;> rfl) ?_
          refine OpenK.nil (OpenE.fin (by decide +kernel) (by decide +kernel) ?_)
          refine Exec.exitS ?_
          refine BlkK.hit ?_
          refine Exec.reg1 ?_
          refine Run.op (by simp only [go_sem, hs, g1, t1, hg, pick_max]; (try simp (disch := omega) only [IntWalk.i64_in, IntWalk.u64_in, if_neg, if_pos])<;> rfl) (by simp only [go_sem] <;> rfl) ?_
          refine Run.op (by simp only [go_sem, hs, g1, t1, hg, pick_max] <;> rfl) (by simp only [go_sem] <;> rfl) ?_
          refine Run.nil ?_
          refine ForK.nxt ?_ ?_ ?_
          · omega
          · exact Ghost.kp [2, 6, 7, 8] [1000] (by simp only [go_sem, hs, g1, t1, hg, pick_max]; first | ((repeat' (first | with_reducible_and_instances rfl | refine st_eq ?_ ?_ ?_ | refine ret_eq ?_ | refine tup_eq ?_ | refine tm_eq ?_ ?_ | refine arr_eq ?_ | refine cells_eq ?_ | refine val_eq ?_ | refine ls_eq ?_ ?_ | refine own_eq ?_ ?_ | refine sl_eq ?_ | refine b_eq ?_ | (refine i_eq ?_; omega))); (all_goals (simp [hsu, encSpan]))) | rfl)
          · trivial
        · skip
          have hle : ¬ s.lo ≤ y.hi + 1 := of_decide_eq_false hb27
          rw [if_neg hle] at hsu
          refine Exec.skipS ?_
          refine Exec.reg1 ?_
          iterate 3 (refine Run.op (by simp only [go_sem, hs, g1, t1, hg] <;> rfl) (by simp only [go_sem] <;> rfl) ?_)
          refine Run.op (by simp only [go_sem, hs, g1, t1, hg]; (try simp (disch := omega) only [if_pos]); (try simp only [go_sem, hs, g1, t1, hg]) <;> first | (refine ite_run ⟨by (try simp only [List.length_append, List.length_drop, List.length_take, List.length_map, List.length_cons, List.length_nil, List.length_replicate, List.length_set, List.length_range, Nat.zero_add]); omega, by (try simp only [List.length_append, List.length_drop, List.length_take, List.length_map, List.length_cons, List.length_nil, List.length_replicate, List.length_set, List.length_range, Nat.zero_add]); omega, by repeat (first | exact al_nil | assumption | refine al_app ?_ ?_ | refine al_drop ?_ | refine al_take ?_ | exact al_map (fun _ => rfl) | exact al_rep rfl | refine al_cons rfl ?_)⟩ ?_; simp only [go_sem, hs, g1, t1, hg] <;> rfl) | (refine ite_run ⟨by (try simp only [List.length_append, List.length_drop, List.length_take, List.length_map, List.length_cons, List.length_nil, List.length_replicate, List.length_set, List.length_range, Nat.zero_add]); omega, by repeat (first | exact al_nil | assumption | refine al_app ?_ ?_ | refine al_drop ?_ | refine al_take ?_ | exact al_map (fun _ => rfl) | exact al_rep rfl | refine al_cons rfl ?_)⟩ ?_; simp only [go_sem, hs, g1, t1, hg] <;> rfl) | rfl) (by simp only [go_sem] <;> rfl) ?_
          refine Run.op (by simp only [go_sem, hs, g1, t1, hg] <;> rfl) (by simp only [go_sem] <;> rfl) ?_
          refine Run.nil ?_
          refine BlkK.nrm ?_
          refine Exec.reg1 ?_
          refine Run.op (by simp only [go_sem, hs, g1, t1, hg]; (try simp (disch := omega) only [IntWalk.i64_in, IntWalk.u64_in, if_neg, if_pos])<;> rfl) (by simp only [go_sem] <;> rfl) ?_
          refine Run.op (by simp only [go_sem, hs, g1, t1, hg] <;> rfl) (by simp only [go_sem] <;> rfl) ?_
          refine Run.nil ?_
          refine ForK.nxt ?_ ?_ ?_
          · omega
          · exact Ghost.kp [2, 6, 7, 8] [1000] (by simp only [go_sem, hs, g1, t1, hg]; first | ((repeat' (first | with_reducible_and_instances rfl | refine st_eq ?_ ?_ ?_ | refine ret_eq ?_ | refine tup_eq ?_ | refine tm_eq ?_ ?_ | refine arr_eq ?_ | refine cells_eq ?_ | refine val_eq ?_ | refine ls_eq ?_ ?_ | refine own_eq ?_ ?_ | refine sl_eq ?_ | refine b_eq ?_ | (refine i_eq ?_; omega))); (all_goals (simp [hsu, encSpan]))) | rfl)
          · trivial
    · skip
      have hke : k = l.length := by have := ge_of_dec hb9; omega
      subst hke
      have hta : List.take (joinR l).length (List.map encSpan (joinR l)) = List.map encSpan (joinR l) := List.take_of_length_le (by simp)
      refine Exec.exitS ?_
      refine ForK.ext ?_
      refine BlkK.hit ?_
      refine Exec.reg ?_
      refine Run.frz 1000 (by simp only [go_sem, hta] <;> rfl) ?_
      iterate 2 (refine Run.op (by simp only [go_sem, List.take_length] <;> rfl) (by simp only [go_sem] <;> rfl) ?_)
      refine Run.nil ?_
      exact Ends.fin [] (rs := [.tmp 2]) rfl (by simp only [go_sem, List.take_length] <;> rfl) (by simp only [go_sem, List.take_length] <;> first | rfl | ((repeat' (first | with_reducible_and_instances rfl | refine st_eq ?_ ?_ ?_ | refine ret_eq ?_ | refine tup_eq ?_ | refine tm_eq ?_ ?_ | refine arr_eq ?_ | refine cells_eq ?_ | refine val_eq ?_ | refine ls_eq ?_ ?_ | refine own_eq ?_ ?_ | refine sl_eq ?_ | refine b_eq ?_ | (refine i_eq ?_; omega))); done))

end Go.Mw

/- Contracts of the statements BillSums and BillRises. -/
import Derived.Test.YtabfdgdckmhhgaaB11
import Derived.Test.YtabfdgdckmhhgaaB4
import Derived.Test.YtabfdgdckmhhgaaRows
set_option linter.unusedSimpArgs false
set_option linter.unusedVariables false
set_option linter.unusedSectionVars false
set_option linter.deprecated false
namespace Go.Mw
open Go.Proofs
open Go.Bi
attribute [local go_sem] decide_true beq_self_eq_true bne_self_eq_false
theorem billsR_E (a : Ac) : (billsR a).2 = billsE a := by
  unfold billsR
  split
  · rename_i h; exact h.symm
  · rfl
theorem usedR_E (a : Ac) (day known : Int) : (usedR a day known).2 = openE a day known := by
  unfold usedR
  split
  · rename_i h; exact h.symm
  · rfl
end Go.Mw
namespace Go.Mw
open Go.Proofs
open Go.Bi
attribute [local go_sem] decide_true beq_self_eq_true bne_self_eq_false
/-- The notes, turned. -/
def rotT (l : List Nt) (t k : Nat) : List Nt := (List.range k).map fun i => l.getD ((i + t) % l.length) default
theorem rotT_succ (l : List Nt) (t k : Nat) : rotT l t (k + 1) = rotT l t k ++ [l.getD ((k + t) % l.length) default] := by unfold rotT; rw [List.range_succ, List.map_append]; rfl
theorem rotT_len (l : List Nt) (t k : Nat) : (rotT l t k).length = k := by unfold rotT; simp
theorem rot_mem (l : List Nt) (t : Nat) (n : Nt) : n ∈ rotT l t l.length ↔ n ∈ l := by
  unfold rotT
  rw [List.mem_map]
  constructor
  · rintro ⟨i, hi, rfl⟩
    have := List.mem_range.1 hi
    exact getD_mem (Nat.mod_lt _ (by omega))
  · intro hn
    obtain ⟨i, hi, rfl⟩ := getD_of_mem hn
    refine ⟨(i + (l.length - t % l.length)) % l.length, List.mem_range.2 (Nat.mod_lt _ (by omega)), ?_⟩
    have h1 := Nat.mod_lt t (show 0 < l.length by omega)
    have h2 := Nat.div_add_mod t l.length
    have e : ((i + (l.length - t % l.length)) % l.length + t) % l.length = i := by
      rw [Nat.mod_add_mod]
      have : i + (l.length - t % l.length) + t = i + l.length * (t / l.length + 1) := by
        rw [Nat.mul_add, Nat.mul_one]; omega
      rw [this, Nat.add_mul_mod_self_left, Nat.mod_eq_of_lt hi]
    rw [e]
theorem rot_x {l w : List Nt} {x : Nt} (h : ∀ n, n ∈ w ↔ n ∈ l) (hx : x ∈ w) (hl : w.length ≤ 22) : (∀ n, n ∈ w ++ [x] ↔ n ∈ l) ∧ (w ++ [x]).length ≤ 24 := by
  refine ⟨fun n => ?_, by rw [List.length_append]; simp; omega⟩
  rw [List.mem_append, List.mem_singleton]
  constructor
  · rintro (g | rfl)
    · exact (h n).1 g
    · exact (h n).1 hx
  · exact fun g => .inl ((h n).2 g)
theorem start_one {a : Ac} (h : startE a = 1) (day known : Int) : usedR a day known = (0, 1) ∧ billsR a = ([], 1) ∧ owedR a day = (0, 1) := by
  have h1 : ∀ d k, openE a d k = 1 := fun d k => by unfold openE; rw [if_pos (by rw [h]; decide), h]
  have h2 : billsE a = 1 := by unfold billsE; rw [if_pos (by rw [h]; decide), h]
  have h3 : owedE a day = 1 := by unfold owedE; rw [if_pos (by rw [h1]; decide), h1]
  refine ⟨?_, ?_, ?_⟩
  · unfold usedR; rw [h1]; rfl
  · unfold billsR; rw [h2]; rfl
  · unfold owedR; rw [h3]; rfl
theorem start_of_acct {a : Ac} (h : acctB a = true) : startE a = 0 ∨ startE a = 5 := by
  unfold startE
  rw [if_neg (by rw [h]; decide)]
  split
  · exact .inr rfl
  · exact .inl rfl
theorem bills_five {a : Ac} (h : startE a = 5) : billsE a = 5 := by unfold billsE; rw [if_pos (by rw [h]; decide), h]
theorem acct_more {a : Ac} (h : acctB a = true) (hl : a.ns.length < 24) {n : Nt} (hn : noteOK a.start n = true) : acctB (acN a (a.ns ++ [n])) = true := by
  unfold acctB at h ⊢
  simp only [Bool.and_eq_true] at h ⊢
  obtain ⟨⟨⟨⟨⟨h1, h2⟩, h3⟩, h4⟩, h5⟩, h6⟩ := h
  refine ⟨⟨⟨⟨⟨h1, ?_⟩, h3⟩, h4⟩, ?_⟩, h6⟩
  · rw [sizes_iff] at h2 ⊢
    refine ⟨h2.1, h2.2.1, ?_, h2.2.2.2⟩
    show (a.ns ++ [n]).length ≤ 24
    rw [List.length_append]; simp; omega
  · show (a.ns ++ [n]).all (noteOK a.start) = true
    rw [List.all_append, h5]
    simp [hn]
theorem open_five {a : Ac} (h : startE a = 5) (day known : Int) : usedR a day known = (0, 5) := by
  have h1 : openE a day known = 5 := by unfold openE; rw [if_pos (by rw [h]; decide), h]
  unfold usedR; rw [h1]; rfl
theorem open_not5 {a : Ac} (h : startE a = 0) (day known : Int) : (usedR a day known).2 ≠ 5 := by
  rw [usedR_E]
  unfold openE
  rw [if_neg (by simp [h])]
  split
  · decide
  · split <;> decide
set_option maxRecDepth 20000 in
set_option maxHeartbeats 64000000 in
/-- meterworks/meterworkslaw13.BillOrder -/
theorem c_law_BillOrder (a : Ac) (day known : Int) (t : Nat) (ht : t < 256) : Contract Try.prog 7 [acV a, .int day, .int known, .raw (.int .u8 t)] (.bool true) [] := by
  have hz0 : rotT a.ns t 0 = [] := rfl
  have hq3 : (t : Int).tdiv 3 = ((t / 3 : Nat) : Int) := by rw [Int.tdiv_eq_ediv_of_nonneg (by omega)]; omega
  have hbo := blls_ok a
  have hb2 := billsR_E a
  refine con_of follows_mixed Try.func7 rfl (by simp only [List.length_cons, List.length_nil, Try.ntmps7]; omega) (by kernel_rfl) rfl ?_
  refine Exec.reg ?_
  iterate 2 (refine Run.o1 (by simp only [go_sem, gt_iff_lt, ge_iff_le, hq3, hb2] <;> rfl) ?_)
  refine Run.nil ?_
  refine Exec.assocS ?_
  refine Exec.reg ?_
  refine Run.o1 (by simp only [go_sem, gt_iff_lt, ge_iff_le, hq3, hb2] <;> rfl) ?_
  refine Run.c1 (c_law_large a) (by simp only [go_sem, gt_iff_lt, ge_iff_le, hq3, hb2] <;> rfl) (by simp only [go_sem, gt_iff_lt, ge_iff_le, hq3, hb2] <;> rfl) ?_
  refine Run.o1 (by simp only [go_sem, gt_iff_lt, ge_iff_le, hq3, hb2] <;> rfl) ?_
  iterate 4 (refine Run.gop (by simp only [go_sem] <;> rfl) (by simp only [go_sem, gt_iff_lt, ge_iff_le, hq3, hb2] <;> rfl) (by simp only [go_sem] <;> rfl) ?_)
  refine Run.o1 (by simp only [go_sem, gt_iff_lt, ge_iff_le, hq3, hb2] <;> rfl) ?_
  refine Run.nil ?_
  refine Exec.cndS (by simp only [go_sem, gt_iff_lt, ge_iff_le, hq3, hb2] <;> rfl) (fun hb33 => ?_) (fun hb33 => ?_)
  · skip
    refine Exec.assocS ?_
    refine Exec.reg ?_
    refine Run.c1 (c_law_awake) (by simp only [go_sem, gt_iff_lt, ge_iff_le, hq3, hb2] <;> rfl) (by simp only [go_sem, gt_iff_lt, ge_iff_le, hq3, hb2] <;> rfl) ?_
    refine Run.o1 (by simp only [go_sem, gt_iff_lt, ge_iff_le, hq3, hb2] <;> rfl) ?_
    refine Run.nil ?_
    refine Exec.retS ?_
    exact Ends.fin [] (rs := [.tmp 8]) rfl (by simp only [go_sem, gt_iff_lt, ge_iff_le, hq3, hb2] <;> rfl) (by simp only [go_sem, gt_iff_lt, ge_iff_le, hq3, hb2] <;> first | rfl | exact eqz)
  · skip
    have hsm : a.ns.length ≤ 22 := by
      have h := hb33
      simp only [Bool.or_eq_false_iff, decide_eq_false_iff_not] at h
      omega
    refine Exec.skipS ?_
    refine Exec.reg ?_
    iterate 3 (refine Run.o1 (by simp only [go_sem, gt_iff_lt, ge_iff_le, hq3, hb2] <;> rfl) ?_)
    refine Run.c1 (c_bill_Used a day known) (by simp only [go_sem, gt_iff_lt, ge_iff_le, hq3, hb2] <;> rfl) (by simp only [go_sem, gt_iff_lt, ge_iff_le, hq3, hb2] <;> rfl) ?_
    iterate 5 (refine Run.o1 (by simp only [go_sem, gt_iff_lt, ge_iff_le, hq3, hb2] <;> rfl) ?_)
    refine Run.nil ?_
    refine Exec.reg ?_
    refine Run.o1 (by simp only [go_sem, gt_iff_lt, ge_iff_le, hq3, hb2] <;> rfl) ?_
    refine Run.c1 (c_bill_Bills a) (by simp only [go_sem, gt_iff_lt, ge_iff_le, hq3, hb2] <;> rfl) (by simp only [go_sem, gt_iff_lt, ge_iff_le, hq3, hb2] <;> rfl) ?_
    iterate 5 (refine Run.o1 (by simp only [go_sem, gt_iff_lt, ge_iff_le, hq3, hb2] <;> rfl) ?_)
    refine Run.nil ?_
    refine Exec.reg ?_
    iterate 2 (refine Run.o1 (by simp only [go_sem, gt_iff_lt, ge_iff_le, hq3, hb2] <;> rfl) ?_)
    refine Run.c1 (c_bill_Owed a day) (by simp only [go_sem, gt_iff_lt, ge_iff_le, hq3, hb2] <;> rfl) (by simp only [go_sem, gt_iff_lt, ge_iff_le, hq3, hb2] <;> rfl) ?_
    iterate 5 (refine Run.o1 (by simp only [go_sem, gt_iff_lt, ge_iff_le, hq3, hb2] <;> rfl) ?_)
    refine Run.nil ?_
    refine Exec.assocS ?_
    refine Exec.reg ?_
    iterate 3 (refine Run.o1 (by simp only [go_sem, gt_iff_lt, ge_iff_le, hq3, hb2] <;> rfl) ?_)
    refine Run.gop (by simp only [go_sem] <;> rfl) (by simp only [go_sem, gt_iff_lt, ge_iff_le, hq3, hb2] <;> rfl) (by simp only [go_sem] <;> rfl) ?_
    refine Run.gcal (by simp only [go_sem] <;> rfl) (c_ref_Account a) (by simp only [go_sem]) (by simp only [go_sem, gt_iff_lt, ge_iff_le, hq3, hb2] <;> rfl) (by exact ⟨by first | exact WkR.pure rfl | exact WkR.nil _ | exact WkR.int (by first | omega | (simp; done) | (simp; omega)), trivial⟩) (by simp only [go_sem, gt_iff_lt, ge_iff_le, hq3, hb2] <;> rfl) ?_
    refine Run.gop (by simp only [go_sem] <;> rfl) (by simp only [go_sem, gt_iff_lt, ge_iff_le, hq3, hb2] <;> rfl) (by simp only [go_sem] <;> rfl) ?_
    refine Run.o1 (by simp only [go_sem, gt_iff_lt, ge_iff_le, hq3, hb2] <;> rfl) ?_
    refine Run.nil ?_
    refine Exec.cndS (by simp only [go_sem, gt_iff_lt, ge_iff_le, hq3, hb2] <;> rfl) (fun hb59 => ?_) (fun hb59 => ?_)
    · skip
      have hs1 : startE a = 1 := by
        have h := hb59
        simp only [Bool.or_eq_true, beq_iff_eq, Bool.not_eq_true'] at h
        rcases h with h | h
        · cases hA : acctB a with
          | false => exact if_pos hA
          | true =>
            unfold billsE at h
            rcases start_of_acct hA with e | e
            · rw [if_neg (by rw [e]; decide)] at h
              split at h <;> cases h
            · rw [if_pos (by rw [e]; decide), e] at h; cases h
        · exact if_pos h
      obtain ⟨r1, r2, r3⟩ := start_one hs1 day known
      have hbe : billsE a = 1 := by rw [← hb2, r2]
      refine Exec.assocS ?_
      refine Exec.reg ?_
      iterate 4 (refine Run.o1 (by simp only [go_sem, gt_iff_lt, ge_iff_le, hq3, hb2, r1, r2, r3, hbe] <;> rfl) ?_)
      iterate 3 (refine Run.y1 (by simp only [go_sem, gt_iff_lt, ge_iff_le, hq3, hb2, r1, r2, r3, hbe] <;> rfl) ?_)
      iterate 2 (refine Run.o1 (by simp only [go_sem, gt_iff_lt, ge_iff_le, hq3, hb2, r1, r2, r3, hbe] <;> rfl) ?_)
      iterate 3 (refine Run.y1 (by simp only [go_sem, gt_iff_lt, ge_iff_le, hq3, hb2, r1, r2, r3, hbe] <;> rfl) ?_)
      iterate 2 (refine Run.o1 (by simp only [go_sem, gt_iff_lt, ge_iff_le, hq3, hb2, r1, r2, r3, hbe] <;> rfl) ?_)
      refine Run.calw (by simp only [go_sem] <;> rfl) (c_law_awake) (by simp only [go_sem]) (by simp only [go_sem, gt_iff_lt, ge_iff_le, hq3, hb2, r1, r2, r3, hbe] <;> rfl) (by simp only [go_sem, gt_iff_lt, ge_iff_le, hq3, hb2, r1, r2, r3, hbe] <;> rfl) (by exact trivial) (fr0) (by simp only [go_sem, gt_iff_lt, ge_iff_le, hq3, hb2, r1, r2, r3, hbe] <;> rfl) ?_
      iterate 2 (refine Run.o1 (by simp only [go_sem, gt_iff_lt, ge_iff_le, hq3, hb2, r1, r2, r3, hbe] <;> rfl) ?_)
      refine Run.nil ?_
      refine Exec.retS ?_
      exact Ends.fin [] (rs := [.tmp 8]) rfl (by simp only [go_sem, gt_iff_lt, ge_iff_le, hq3, hb2, r1, r2, r3, hbe] <;> rfl) (by simp only [go_sem, gt_iff_lt, ge_iff_le, hq3, hb2, r1, r2, r3, hbe] <;> first | rfl | exact eqz)
    · skip
      have hA : acctB a = true := by
        have h := hb59
        simp only [Bool.or_eq_false_iff, Bool.not_eq_false'] at h
        exact h.2
      have v := acct_val hA
      have hst := v.start
      refine Exec.skipS ?_
      refine Exec.reg ?_
      iterate 3 (refine Run.o1 (by simp only [go_sem, gt_iff_lt, ge_iff_le, hq3, hb2] <;> rfl) ?_)
      refine Run.nil ?_
      refine Exec.reg ?_
      iterate 2 (refine Run.o1 (by simp only [go_sem, gt_iff_lt, ge_iff_le, hq3, hb2] <;> rfl) ?_)
      refine Run.nil ?_
      refine Exec.assocS ?_
      refine Exec.reg ?_
      refine Run.nilC 15 6 1000 42 3 (by simp only [go_sem] <;> rfl) (by simp only [go_sem] <;> rfl) (by simp only [go_sem] <;> rfl) (by omega) (by omega) (by simp only [go_sem] <;> rfl) ?_
      refine Run.o1 (by simp only [go_sem, gt_iff_lt, ge_iff_le, hq3, hb2] <;> rfl) ?_
      refine Run.nil ?_
      refine Exec.blk ?_
      refine Exec.forA [1, 2, 3, 4, 9, 10, 11, 12, 13, 14, 15, 16] [4, 15, 1000] (a.ns.length) (fun k => [.slot 16 (.int k), .slot 15 (.leaf (.ptr 15 0)), .obj 15 (.cells [.d (.i a.start), .d (.i a.fig), .d (.i a.daily), .d (.i a.stand), .d (tsD a.ts), .d (intsD a.bs), .own 1000 0 k k, .d (dsD a.ds)]), .obj 1000 (.arr 42 3 ((rotT a.ns t k).map encNt))]) (fun _ => True) (fun k => by simp only [go_sem] <;> rfl) (by simp only [go_sem, gt_iff_lt, ge_iff_le, hq3, hb2, Int.natCast_zero, hz0] <;> rfl) ?_ (fun k hk hX => ?_)
      · trivial
      · skip
        refine Exec.assocS ?_
        refine Exec.reg ?_
        iterate 5 (refine Run.o1 (by simp only [go_sem, gt_iff_lt, ge_iff_le, hq3, hb2] <;> rfl) ?_)
        refine Run.nil ?_
        refine Exec.cndS (by simp only [go_sem, gt_iff_lt, ge_iff_le, hq3, hb2] <;> rfl) (fun hb82 => ?_) (fun hb82 => ?_)
        · skip
          have hlt := lt_of_dec hb82
          have hmod : ((k : Int) + (t : Int)).tmod (a.ns.length : Int) = (((k + t) % a.ns.length : Nat) : Int) := by rw [Int.tmod_eq_emod_of_nonneg (by omega)]; rfl
          have hk2 := nt_get (l := a.ns) (i := (k + t) % a.ns.length) (Nat.mod_lt _ (by omega))
          have t1 : ((((k + t) % a.ns.length : Nat) : Int)).toNat = (k + t) % a.ns.length := rfl
          have hml := Nat.mod_lt (k + t) (show 0 < a.ns.length by omega)
          have hrs := rotT_succ a.ns t k
          have hrl := rotT_len a.ns t k
          refine Exec.skipS ?_
          refine Exec.blk ?_
          refine Exec.opk1 20 ?_
          iterate 6 (refine OpenK.o1 (by simp only [go_sem, gt_iff_lt, ge_iff_le, hq3, hb2, hmod, hk2, t1, hrl] <;> rfl) ?_)
          iterate 2 (refine OpenK.o1 (by simp only [go_sem, gt_iff_lt, ge_iff_le, hq3, hb2, hmod, hk2, t1, hrl]; (try simp (disch := omega) only [IntWalk.i64_in, IntWalk.u64_in, if_neg, if_pos])<;> rfl) ?_)
          iterate 3 (refine OpenK.o1 (by simp only [go_sem, gt_iff_lt, ge_iff_le, hq3, hb2, hmod, hk2, t1, hrl] <;> rfl) ?_)
          refine OpenK.o1 (by simp only [go_sem, gt_iff_lt, ge_iff_le, hq3, hb2, hmod, hk2, t1, hrl]; (try simp (disch := omega) only [IntWalk.i64_in, IntWalk.u64_in, if_neg, if_pos])<;> rfl) ?_
          refine OpenK.o1 (by simp only [go_sem, gt_iff_lt, ge_iff_le, hq3, hb2, hmod, hk2, t1, hrl]; (try simp (disch := omega) only [if_pos]); (try simp only [go_sem, gt_iff_lt, ge_iff_le, hq3, hb2, hmod, hk2, t1, hrl])<;> rfl) ?_
          iterate 2 (refine OpenK.o1 (by simp only [go_sem, gt_iff_lt, ge_iff_le, hq3, hb2, hmod, hk2, t1, hrl] <;> rfl) ?_)
          refine OpenK.o1 (by simp only [go_sem, gt_iff_lt, ge_iff_le, hq3, hb2, hmod, hk2, t1, hrl]; (try simp (disch := omega) only [if_pos]); (try simp only [go_sem, gt_iff_lt, ge_iff_le, hq3, hb2, hmod, hk2, t1, hrl]) <;> first | (refine ite_run ⟨by (try simp only [List.length_append, List.length_drop, List.length_take, List.length_map, List.length_cons, List.length_nil, List.length_replicate, List.length_set, List.length_range, Nat.zero_add]); omega, by (try simp only [List.length_append, List.length_drop, List.length_take, List.length_map, List.length_cons, List.length_nil, List.length_replicate, List.length_set, List.length_range, Nat.zero_add]); omega, by repeat (first | exact al_nil | assumption | refine al_app ?_ ?_ | refine al_drop ?_ | refine al_take ?_ | exact al_map (fun _ => rfl) | exact al_rep rfl | refine al_cons rfl ?_)⟩ ?_; simp only [go_sem, gt_iff_lt, ge_iff_le, hq3, hb2, hmod, hk2, t1, hrl] <;> rfl) | (refine ite_run ⟨by (try simp only [List.length_append, List.length_drop, List.length_take, List.length_map, List.length_cons, List.length_nil, List.length_replicate, List.length_set, List.length_range, Nat.zero_add]); omega, by repeat (first | exact al_nil | assumption | refine al_app ?_ ?_ | refine al_drop ?_ | refine al_take ?_ | exact al_map (fun _ => rfl) | exact al_rep rfl | refine al_cons rfl ?_)⟩ ?_; simp only [go_sem, gt_iff_lt, ge_iff_le, hq3, hb2, hmod, hk2, t1, hrl] <;> rfl) | rfl) ?_
          iterate 2 (refine OpenK.o1 (by simp only [go_sem, gt_iff_lt, ge_iff_le, hq3, hb2, hmod, hk2, t1, hrl] <;> rfl) ?_)
          refine OpenK.nil (OpenE.finT (by kernel_rfl) (by kernel_rfl) (by kernel_rfl) ?_)
          refine BlkK.nrm ?_
          refine Exec.reg1 ?_
          refine Run.o1 (by simp only [go_sem, gt_iff_lt, ge_iff_le, hq3, hb2, hmod, hk2, t1, hrl] <;> rfl) ?_
          refine Run.o1 (by simp only [go_sem, gt_iff_lt, ge_iff_le, hq3, hb2, hmod, hk2, t1, hrl]; (try simp (disch := omega) only [IntWalk.i64_in, IntWalk.u64_in, if_neg, if_pos])<;> rfl) ?_
          refine Run.o1 (by simp only [go_sem, gt_iff_lt, ge_iff_le, hq3, hb2, hmod, hk2, t1, hrl] <;> rfl) ?_
          refine Run.nil ?_
          refine ForK.nxt ?_ ?_ ?_
          · omega
          · exact Ghost.kp [1, 2, 3, 4, 9, 10, 11, 12, 13, 14, 15, 16] [4, 15, 1000] (by simp only [go_sem, gt_iff_lt, ge_iff_le, hq3, hb2, hmod, hk2, t1, hrl] <;> first | ((repeat' (first | with_reducible_and_instances rfl | refine st_eq ?_ ?_ ?_ | refine ret_eq ?_ | refine tup_eq ?_ | refine tm_eq ?_ ?_ | refine arr_eq ?_ | refine cells_eq ?_ | refine val_eq ?_ | refine ls_eq ?_ ?_ | refine own_eq ?_ ?_ | refine sl_eq ?_ | refine b_eq ?_ | (refine i_eq ?_; omega))); (all_goals (first | omega | (rw [hrs]; simp [encNt]; done)))) | rfl)
          · trivial
        · skip
          have hke : k = a.ns.length := by have := ge_of_dec hb82; omega
          subst hke
          have hrl := rotT_len a.ns t a.ns.length
          have hrm := rot_mem a.ns t
          refine Exec.exitS ?_
          refine ForK.ext ?_
          refine BlkK.hit ?_
          refine Exec.assocS ?_
          refine Exec.reg ?_
          iterate 4 (refine Run.o1 (by simp only [go_sem, gt_iff_lt, ge_iff_le, hq3, hb2, hrl] <;> rfl) ?_)
          refine Run.nil ?_
          refine Exec.joinA [1, 2, 3, 4, 9, 10, 11, 12, 13, 14, 15] [4, 15, 1000] (fun (w : List Nt) => [.slot 15 (.leaf (.ptr 15 0)), .obj 15 (.cells [.d (.i a.start), .d (.i a.fig), .d (.i a.daily), .d (.i a.stand), .d (tsD a.ts), .d (intsD a.bs), .own 1000 0 w.length w.length, .d (dsD a.ds)]), .obj 1000 (.arr 42 3 (w.map encNt))]) (fun (w : List Nt) => (∀ n, n ∈ w ↔ n ∈ a.ns) ∧ w.length ≤ 24) (fun w => by simp only [go_sem] <;> rfl) ?_ (fun w hj => ?_)
          · skip
            refine Exec.cnd (by simp only [go_sem, gt_iff_lt, ge_iff_le, hq3, hb2, hrl] <;> rfl) (fun hb105 => ?_) (fun hb105 => ?_)
            · skip
              have hn0 : 0 < a.ns.length := by have := of_decide_eq_true hb105; omega
              have hmod : (((t / 3 : Nat) : Int)).tmod (a.ns.length : Int) = (((t / 3) % a.ns.length : Nat) : Int) := by rw [Int.tmod_eq_emod_of_nonneg (by omega)]; rfl
              have hml := Nat.mod_lt (t / 3) hn0
              obtain ⟨x, hx⟩ : ∃ x, (rotT a.ns t a.ns.length)[(t / 3) % a.ns.length]? = some x := ⟨_, List.getElem?_eq_getElem (by omega)⟩
              have t1 : ((((t / 3) % a.ns.length : Nat) : Int)).toNat = (t / 3) % a.ns.length := rfl
              refine Exec.opk1 19 ?_
              iterate 5 (refine OpenK.o1 (by simp only [go_sem, gt_iff_lt, ge_iff_le, hq3, hb2, hrl, hmod, hx, t1] <;> rfl) ?_)
              iterate 2 (refine OpenK.o1 (by simp only [go_sem, gt_iff_lt, ge_iff_le, hq3, hb2, hrl, hmod, hx, t1]; (try simp (disch := omega) only [IntWalk.i64_in, IntWalk.u64_in, if_neg, if_pos])<;> rfl) ?_)
              iterate 3 (refine OpenK.o1 (by simp only [go_sem, gt_iff_lt, ge_iff_le, hq3, hb2, hrl, hmod, hx, t1] <;> rfl) ?_)
              refine OpenK.o1 (by simp only [go_sem, gt_iff_lt, ge_iff_le, hq3, hb2, hrl, hmod, hx, t1]; (try simp (disch := omega) only [IntWalk.i64_in, IntWalk.u64_in, if_neg, if_pos])<;> rfl) ?_
              refine OpenK.o1 (by simp only [go_sem, gt_iff_lt, ge_iff_le, hq3, hb2, hrl, hmod, hx, t1]; (try simp (disch := omega) only [if_pos]); (try simp only [go_sem, gt_iff_lt, ge_iff_le, hq3, hb2, hrl, hmod, hx, t1])<;> rfl) ?_
              iterate 2 (refine OpenK.o1 (by simp only [go_sem, gt_iff_lt, ge_iff_le, hq3, hb2, hrl, hmod, hx, t1] <;> rfl) ?_)
              refine OpenK.o1 (by simp only [go_sem, gt_iff_lt, ge_iff_le, hq3, hb2, hrl, hmod, hx, t1]; (try simp (disch := omega) only [if_pos]); (try simp only [go_sem, gt_iff_lt, ge_iff_le, hq3, hb2, hrl, hmod, hx, t1]) <;> first | (refine ite_run ⟨by (try simp only [List.length_append, List.length_drop, List.length_take, List.length_map, List.length_cons, List.length_nil, List.length_replicate, List.length_set, List.length_range, Nat.zero_add]); omega, by (try simp only [List.length_append, List.length_drop, List.length_take, List.length_map, List.length_cons, List.length_nil, List.length_replicate, List.length_set, List.length_range, Nat.zero_add]); omega, by repeat (first | exact al_nil | assumption | refine al_app ?_ ?_ | refine al_drop ?_ | refine al_take ?_ | exact al_map (fun _ => rfl) | exact al_rep rfl | refine al_cons rfl ?_)⟩ ?_; simp only [go_sem, gt_iff_lt, ge_iff_le, hq3, hb2, hrl, hmod, hx, t1] <;> rfl) | (refine ite_run ⟨by (try simp only [List.length_append, List.length_drop, List.length_take, List.length_map, List.length_cons, List.length_nil, List.length_replicate, List.length_set, List.length_range, Nat.zero_add]); omega, by repeat (first | exact al_nil | assumption | refine al_app ?_ ?_ | refine al_drop ?_ | refine al_take ?_ | exact al_map (fun _ => rfl) | exact al_rep rfl | refine al_cons rfl ?_)⟩ ?_; simp only [go_sem, gt_iff_lt, ge_iff_le, hq3, hb2, hrl, hmod, hx, t1] <;> rfl) | rfl) ?_
              iterate 2 (refine OpenK.o1 (by simp only [go_sem, gt_iff_lt, ge_iff_le, hq3, hb2, hrl, hmod, hx, t1] <;> rfl) ?_)
              refine OpenK.nil (OpenE.finT (by kernel_rfl) (by kernel_rfl) (by kernel_rfl) ?_)
              refine JoinK.nrm (((rotT a.ns t a.ns.length) ++ [x])) ?_ ?_
              · exact rot_x hrm (List.mem_of_getElem? hx) (by rw [hrl]; omega)
              · exact Ghost.kp [1, 2, 3, 4, 9, 10, 11, 12, 13, 14, 15] [4, 15, 1000] (by simp only [go_sem, gt_iff_lt, ge_iff_le, hq3, hb2, hrl, hmod, hx, t1] <;> first | ((repeat' (first | with_reducible_and_instances rfl | refine st_eq ?_ ?_ ?_ | refine ret_eq ?_ | refine tup_eq ?_ | refine tm_eq ?_ ?_ | refine arr_eq ?_ | refine cells_eq ?_ | refine val_eq ?_ | refine ls_eq ?_ ?_ | refine own_eq ?_ ?_ | refine sl_eq ?_ | refine b_eq ?_ | (refine i_eq ?_; omega))); (all_goals (first | omega | (simp [hrl]; omega) | (simp [encNt, hrl]; done)))) | rfl)
            · skip
              refine JoinK.nrm ((rotT a.ns t a.ns.length)) ?_ ?_
              · exact ⟨hrm, by rw [hrl]; omega⟩
              · exact Ghost.kp [1, 2, 3, 4, 9, 10, 11, 12, 13, 14, 15] [4, 15, 1000] (by simp only [go_sem, gt_iff_lt, ge_iff_le, hq3, hb2, hrl] <;> first | ((repeat' (first | with_reducible_and_instances rfl | refine st_eq ?_ ?_ ?_ | refine ret_eq ?_ | refine tup_eq ?_ | refine tm_eq ?_ ?_ | refine arr_eq ?_ | refine cells_eq ?_ | refine val_eq ?_ | refine ls_eq ?_ ?_ | refine own_eq ?_ ?_ | refine sl_eq ?_ | refine b_eq ?_ | (refine i_eq ?_; omega))); (all_goals (first | omega | (simp [hrl]; done)))) | rfl)
          · skip
            obtain ⟨hwm, hwl⟩ := hj
            have hta : List.take w.length (List.map encNt w) = List.map encNt w := List.take_of_length_le (by simp)
            have hsx := start_N (m := w) (by omega) hwl hwm
            have hpx : startE a = 0 → ∀ k, pts (acN a w) k = pts a k := fun h k => pts_same (by omega) hwl hwm h k
            have hU := used_NR hsx (fun h => hpx h known) day
            have hB := bills_N hsx hpx
            have hO := owed_N hsx hpx day
            refine Exec.reg ?_
            refine Run.frz 1000 (by simp only [go_sem, hta] <;> rfl) ?_
            iterate 3 (refine Run.o1 (by simp only [go_sem, gt_iff_lt, ge_iff_le, hq3, hb2, hrl, hU, hB, hO] <;> rfl) ?_)
            refine Run.c1 (c_bill_Used (acN a w) day known) (by simp only [go_sem, gt_iff_lt, ge_iff_le, hq3, hb2, hrl, hU, hB, hO] <;> rfl) (by simp only [go_sem, gt_iff_lt, ge_iff_le, hq3, hb2, hrl, hU, hB, hO] <;> rfl) ?_
            iterate 5 (refine Run.o1 (by simp only [go_sem, gt_iff_lt, ge_iff_le, hq3, hb2, hrl, hU, hB, hO] <;> rfl) ?_)
            refine Run.nil ?_
            refine Exec.reg ?_
            refine Run.o1 (by simp only [go_sem, gt_iff_lt, ge_iff_le, hq3, hb2, hrl, hU, hB, hO] <;> rfl) ?_
            refine Run.c1 (c_bill_Bills (acN a w)) (by simp only [go_sem, gt_iff_lt, ge_iff_le, hq3, hb2, hrl, hU, hB, hO] <;> rfl) (by simp only [go_sem, gt_iff_lt, ge_iff_le, hq3, hb2, hrl, hU, hB, hO] <;> rfl) ?_
            iterate 5 (refine Run.o1 (by simp only [go_sem, gt_iff_lt, ge_iff_le, hq3, hb2, hrl, hU, hB, hO] <;> rfl) ?_)
            refine Run.nil ?_
            refine Exec.reg ?_
            iterate 2 (refine Run.o1 (by simp only [go_sem, gt_iff_lt, ge_iff_le, hq3, hb2, hrl, hU, hB, hO] <;> rfl) ?_)
            refine Run.c1 (c_bill_Owed (acN a w) day) (by simp only [go_sem, gt_iff_lt, ge_iff_le, hq3, hb2, hrl, hU, hB, hO] <;> rfl) (by simp only [go_sem, gt_iff_lt, ge_iff_le, hq3, hb2, hrl, hU, hB, hO] <;> rfl) ?_
            iterate 5 (refine Run.o1 (by simp only [go_sem, gt_iff_lt, ge_iff_le, hq3, hb2, hrl, hU, hB, hO] <;> rfl) ?_)
            refine Run.nil ?_
            refine Exec.assocS ?_
            refine Exec.reg ?_
            iterate 4 (refine Run.o1 (by simp only [go_sem, gt_iff_lt, ge_iff_le, hq3, hb2, hrl, hU, hB, hO] <;> rfl) ?_)
            iterate 3 (refine Run.y1 (by simp only [go_sem, gt_iff_lt, ge_iff_le, hq3, hb2, hrl, hU, hB, hO] <;> rfl) ?_)
            iterate 2 (refine Run.o1 (by simp only [go_sem, gt_iff_lt, ge_iff_le, hq3, hb2, hrl, hU, hB, hO] <;> rfl) ?_)
            iterate 2 (refine Run.y1 (by simp only [go_sem, gt_iff_lt, ge_iff_le, hq3, hb2, hrl, hU, hB, hO] <;> rfl) ?_)
            refine Run.calw (by simp only [go_sem] <;> rfl) (c_ref_Same (billsR a).1 (billsR a).1 hbo hbo) (by simp only [go_sem]) (by simp only [go_sem, gt_iff_lt, ge_iff_le, hq3, hb2, hrl, hU, hB, hO] <;> rfl) (by simp only [go_sem, gt_iff_lt, ge_iff_le, hq3, hb2, hrl, hU, hB, hO] <;> rfl) (by exact ⟨by first | exact WkR.pure rfl | exact WkR.nil _ | exact WkR.int (by first | omega | (simp; done) | (simp; omega)), by first | exact WkR.pure rfl | exact WkR.nil _ | exact WkR.int (by first | omega | (simp; done) | (simp; omega)), trivial⟩) (fr0) (by simp only [go_sem, gt_iff_lt, ge_iff_le, hq3, hb2, hrl, hU, hB, hO] <;> rfl) ?_
            refine Run.y1 (by simp only [go_sem, gt_iff_lt, ge_iff_le, hq3, hb2, hrl, hU, hB, hO] <;> rfl) ?_
            iterate 2 (refine Run.o1 (by simp only [go_sem, gt_iff_lt, ge_iff_le, hq3, hb2, hrl, hU, hB, hO] <;> rfl) ?_)
            iterate 3 (refine Run.y1 (by simp only [go_sem, gt_iff_lt, ge_iff_le, hq3, hb2, hrl, hU, hB, hO] <;> rfl) ?_)
            iterate 2 (refine Run.o1 (by simp only [go_sem, gt_iff_lt, ge_iff_le, hq3, hb2, hrl, hU, hB, hO] <;> rfl) ?_)
            iterate 3 (refine Run.y1 (by simp only [go_sem, gt_iff_lt, ge_iff_le, hq3, hb2, hrl, hU, hB, hO] <;> rfl) ?_)
            iterate 2 (refine Run.o1 (by simp only [go_sem, gt_iff_lt, ge_iff_le, hq3, hb2, hrl, hU, hB, hO] <;> rfl) ?_)
            iterate 3 (refine Run.y1 (by simp only [go_sem, gt_iff_lt, ge_iff_le, hq3, hb2, hrl, hU, hB, hO] <;> rfl) ?_)
            refine Run.o1 (by simp only [go_sem, gt_iff_lt, ge_iff_le, hq3, hb2, hrl, hU, hB, hO] <;> rfl) ?_
            refine Run.nil ?_
            refine Exec.cndS (by simp only [go_sem, gt_iff_lt, ge_iff_le, hq3, hb2, hrl, hU, hB, hO] <;> rfl) (fun hb168 => ?_) (fun hb168 => ?_)
            · exact absurd hb168 (by simp)
            · skip
              refine Exec.skipS ?_
              refine Exec.assocS ?_
              refine Exec.reg ?_
              iterate 3 (refine Run.o1 (by simp only [go_sem, gt_iff_lt, ge_iff_le, hq3, hb2, hrl, hU, hB, hO] <;> rfl) ?_)
              iterate 2 (refine Run.gop (by simp only [go_sem] <;> rfl) (by simp only [go_sem, gt_iff_lt, ge_iff_le, hq3, hb2, hrl, hU, hB, hO] <;> rfl) (by simp only [go_sem] <;> rfl) ?_)
              iterate 2 (refine Run.o1 (by simp only [go_sem, gt_iff_lt, ge_iff_le, hq3, hb2, hrl, hU, hB, hO] <;> rfl) ?_)
              iterate 4 (refine Run.gop (by simp only [go_sem] <;> rfl) (by simp only [go_sem, gt_iff_lt, ge_iff_le, hq3, hb2, hrl, hU, hB, hO] <;> rfl) (by simp only [go_sem] <;> rfl) ?_)
              refine Run.o1 (by simp only [go_sem, gt_iff_lt, ge_iff_le, hq3, hb2, hrl, hU, hB, hO] <;> rfl) ?_
              refine Run.nil ?_
              refine Exec.cndS (by simp only [go_sem, gt_iff_lt, ge_iff_le, hq3, hb2, hrl, hU, hB, hO] <;> rfl) (fun hb180 => ?_) (fun hb180 => ?_)
              · skip
                refine Exec.assocS ?_
                refine Exec.reg ?_
                refine Run.c1 (c_law_awake) (by simp only [go_sem, gt_iff_lt, ge_iff_le, hq3, hb2, hrl, hU, hB, hO] <;> rfl) (by simp only [go_sem, gt_iff_lt, ge_iff_le, hq3, hb2, hrl, hU, hB, hO] <;> rfl) ?_
                refine Run.o1 (by simp only [go_sem, gt_iff_lt, ge_iff_le, hq3, hb2, hrl, hU, hB, hO] <;> rfl) ?_
                refine Run.nil ?_
                refine Exec.retS ?_
                exact Ends.fin [] (rs := [.tmp 8]) rfl (by simp only [go_sem, gt_iff_lt, ge_iff_le, hq3, hb2, hrl, hU, hB, hO] <;> rfl) (by simp only [go_sem, gt_iff_lt, ge_iff_le, hq3, hb2, hrl, hU, hB, hO] <;> first | rfl | exact eqz)
              · skip
                have hq := hb180
                simp only [Bool.or_eq_false_iff, decide_eq_false_iff_not, beq_eq_false_iff_ne, ne_eq] at hq
                have hkw : a.start ≤ known ∧ known < 131072 := by omega
                have hs0 : startE a = 0 := by
                  rcases start_of_acct hA with h | h
                  · exact h
                  · exact absurd (bills_five h) hq.1.1
                have hAy : acctB (acN a (a.ns ++ [(⟨known + 1, (t : Int), known + 1⟩ : Nt)])) = true := acct_more hA (by omega) (by
                  unfold noteOK
                  simp only [Bool.and_eq_true, inD_iff]
                  show ((a.start + 1 ≤ known + 1 ∧ known + 1 ≤ 131072) ∧ known + 1 ≤ known + 1 ∧ known + 1 ≤ 131072) ∧ 0 ≤ (t : Int) ∧ (t : Int) ≤ 1073741824
                  omega)
                have hty : List.take (a.ns.length + 1) (List.map encNt a.ns ++ [[.i (known + 1), .i (t : Int), .i (known + 1)]]) = List.map encNt (a.ns ++ [(⟨known + 1, (t : Int), known + 1⟩ : Nt)]) := by rw [List.take_of_length_le (by simp)]; simp [encNt]
                refine Exec.skipS ?_
                refine Exec.reg ?_
                iterate 3 (refine Run.o1 (by simp only [go_sem, gt_iff_lt, ge_iff_le, hq3, hb2, hrl, hU, hB, hO] <;> rfl) ?_)
                refine Run.nil ?_
                refine Exec.reg ?_
                iterate 3 (refine Run.o1 (by simp only [go_sem, gt_iff_lt, ge_iff_le, hq3, hb2, hrl, hU, hB, hO] <;> rfl) ?_)
                refine Run.o1 (by simp only [go_sem, gt_iff_lt, ge_iff_le, hq3, hb2, hrl, hU, hB, hO]; (try simp (disch := omega) only [if_pos]); (try simp only [go_sem, gt_iff_lt, ge_iff_le, hq3, hb2, hrl, hU, hB, hO]) <;> first | (refine ite_run ⟨by (try simp only [List.length_append, List.length_drop, List.length_take, List.length_map, List.length_cons, List.length_nil, List.length_replicate, List.length_set, List.length_range, Nat.zero_add]); omega, by (try simp only [List.length_append, List.length_drop, List.length_take, List.length_map, List.length_cons, List.length_nil, List.length_replicate, List.length_set, List.length_range, Nat.zero_add]); omega, by repeat (first | exact al_nil | assumption | refine al_app ?_ ?_ | refine al_drop ?_ | refine al_take ?_ | exact al_map (fun _ => rfl) | exact al_rep rfl | refine al_cons rfl ?_)⟩ ?_; simp only [go_sem, gt_iff_lt, ge_iff_le, hq3, hb2, hrl, hU, hB, hO] <;> rfl) | (refine ite_run ⟨by (try simp only [List.length_append, List.length_drop, List.length_take, List.length_map, List.length_cons, List.length_nil, List.length_replicate, List.length_set, List.length_range, Nat.zero_add]); omega, by repeat (first | exact al_nil | assumption | refine al_app ?_ ?_ | refine al_drop ?_ | refine al_take ?_ | exact al_map (fun _ => rfl) | exact al_rep rfl | refine al_cons rfl ?_)⟩ ?_; simp only [go_sem, gt_iff_lt, ge_iff_le, hq3, hb2, hrl, hU, hB, hO] <;> rfl) | rfl) ?_
                refine Run.o1 (by simp only [go_sem, gt_iff_lt, ge_iff_le, hq3, hb2, hrl, hU, hB, hO] <;> rfl) ?_
                refine Run.o1 (by simp only [go_sem, gt_iff_lt, ge_iff_le, hq3, hb2, hrl, hU, hB, hO]; (try simp (disch := omega) only [IntWalk.i64_in, IntWalk.u64_in, if_neg, if_pos])<;> rfl) ?_
                refine Run.o1 (by simp only [go_sem, gt_iff_lt, ge_iff_le, hq3, hb2, hrl, hU, hB, hO] <;> rfl) ?_
                refine Run.o1 (by simp only [go_sem, gt_iff_lt, ge_iff_le, hq3, hb2, hrl, hU, hB, hO]; (try simp (disch := omega) only [IntWalk.i64_in, IntWalk.u64_in, if_neg, if_pos])<;> rfl) ?_
                refine Run.o1 (by simp only [go_sem, gt_iff_lt, ge_iff_le, hq3, hb2, hrl, hU, hB, hO] <;> rfl) ?_
                refine Run.o1 (by simp only [go_sem, gt_iff_lt, ge_iff_le, hq3, hb2, hrl, hU, hB, hO]; (try simp (disch := omega) only [IntWalk.i64_in, IntWalk.u64_in, if_neg, if_pos])<;> rfl) ?_
                iterate 2 (refine Run.o1 (by simp only [go_sem, gt_iff_lt, ge_iff_le, hq3, hb2, hrl, hU, hB, hO] <;> rfl) ?_)
                refine Run.o1 (by simp only [go_sem, gt_iff_lt, ge_iff_le, hq3, hb2, hrl, hU, hB, hO]; (try simp (disch := omega) only [if_pos]); (try simp only [go_sem, gt_iff_lt, ge_iff_le, hq3, hb2, hrl, hU, hB, hO]) <;> first | (refine ite_run ⟨by (try simp only [List.length_append, List.length_drop, List.length_take, List.length_map, List.length_cons, List.length_nil, List.length_replicate, List.length_set, List.length_range, Nat.zero_add]); omega, by (try simp only [List.length_append, List.length_drop, List.length_take, List.length_map, List.length_cons, List.length_nil, List.length_replicate, List.length_set, List.length_range, Nat.zero_add]); omega, by repeat (first | exact al_nil | assumption | refine al_app ?_ ?_ | refine al_drop ?_ | refine al_take ?_ | exact al_map (fun _ => rfl) | exact al_rep rfl | refine al_cons rfl ?_)⟩ ?_; simp only [go_sem, gt_iff_lt, ge_iff_le, hq3, hb2, hrl, hU, hB, hO] <;> rfl) | (refine ite_run ⟨by (try simp only [List.length_append, List.length_drop, List.length_take, List.length_map, List.length_cons, List.length_nil, List.length_replicate, List.length_set, List.length_range, Nat.zero_add]); omega, by repeat (first | exact al_nil | assumption | refine al_app ?_ ?_ | refine al_drop ?_ | refine al_take ?_ | exact al_map (fun _ => rfl) | exact al_rep rfl | refine al_cons rfl ?_)⟩ ?_; simp only [go_sem, gt_iff_lt, ge_iff_le, hq3, hb2, hrl, hU, hB, hO] <;> rfl) | rfl) ?_
                iterate 2 (refine Run.o1 (by simp only [go_sem, gt_iff_lt, ge_iff_le, hq3, hb2, hrl, hU, hB, hO] <;> rfl) ?_)
                refine Run.nil ?_
                by_cases hy : startE (acN a (a.ns ++ [(⟨known + 1, (t : Int), known + 1⟩ : Nt)])) = 0
                · skip
                  have hQ := used_NR (a := a) (m := a.ns ++ [(⟨known + 1, (t : Int), known + 1⟩ : Nt)]) (known := known) (by rw [hs0]; exact hy) (fun h => pts_more h hy (by show known < known + 1; omega)) day
                  have h5 : ((usedR a day known).2 == 5) = false := by simpa using open_not5 hs0 day known
                  refine Exec.reg ?_
                  refine Run.frz 183 (by simp only [go_sem, hty] <;> rfl) ?_
                  iterate 3 (refine Run.o1 (by simp only [go_sem, gt_iff_lt, ge_iff_le, hq3, hb2, hrl, hU, hB, hO, hQ, h5] <;> rfl) ?_)
                  refine Run.c1 (c_bill_Used (acN a (a.ns ++ [(⟨known + 1, (t : Int), known + 1⟩ : Nt)])) day known) (by simp only [go_sem, gt_iff_lt, ge_iff_le, hq3, hb2, hrl, hU, hB, hO, hQ, h5] <;> rfl) (by simp only [go_sem, gt_iff_lt, ge_iff_le, hq3, hb2, hrl, hU, hB, hO, hQ, h5] <;> rfl) ?_
                  iterate 5 (refine Run.o1 (by simp only [go_sem, gt_iff_lt, ge_iff_le, hq3, hb2, hrl, hU, hB, hO, hQ, h5] <;> rfl) ?_)
                  refine Run.nil ?_
                  refine Exec.reg ?_
                  iterate 3 (refine Run.o1 (by simp only [go_sem, gt_iff_lt, ge_iff_le, hq3, hb2, hrl, hU, hB, hO, hQ, h5] <;> rfl) ?_)
                  iterate 8 (refine Run.y1 (by simp only [go_sem, gt_iff_lt, ge_iff_le, hq3, hb2, hrl, hU, hB, hO, hQ, h5] <;> rfl) ?_)
                  iterate 2 (refine Run.o1 (by simp only [go_sem, gt_iff_lt, ge_iff_le, hq3, hb2, hrl, hU, hB, hO, hQ, h5] <;> rfl) ?_)
                  refine Run.calw (by simp only [go_sem] <;> rfl) (c_law_awake) (by simp only [go_sem]) (by simp only [go_sem, gt_iff_lt, ge_iff_le, hq3, hb2, hrl, hU, hB, hO, hQ, h5] <;> rfl) (by simp only [go_sem, gt_iff_lt, ge_iff_le, hq3, hb2, hrl, hU, hB, hO, hQ, h5] <;> rfl) (by exact trivial) (fr0) (by simp only [go_sem, gt_iff_lt, ge_iff_le, hq3, hb2, hrl, hU, hB, hO, hQ, h5] <;> rfl) ?_
                  iterate 2 (refine Run.o1 (by simp only [go_sem, gt_iff_lt, ge_iff_le, hq3, hb2, hrl, hU, hB, hO, hQ, h5] <;> rfl) ?_)
                  refine Run.nil ?_
                  exact Ends.fin [] (rs := [.tmp 8]) rfl (by simp only [go_sem, gt_iff_lt, ge_iff_le, hq3, hb2, hrl, hU, hB, hO, hQ, h5] <;> rfl) (by simp only [go_sem, gt_iff_lt, ge_iff_le, hq3, hb2, hrl, hU, hB, hO, hQ, h5] <;> first | rfl | exact eqz)
                · skip
                  have hQ := open_five (a := (acN a (a.ns ++ [(⟨known + 1, (t : Int), known + 1⟩ : Nt)]))) ((start_of_acct hAy).resolve_left hy) day known
                  refine Exec.reg ?_
                  refine Run.frz 183 (by simp only [go_sem, hty] <;> rfl) ?_
                  iterate 3 (refine Run.o1 (by simp only [go_sem, gt_iff_lt, ge_iff_le, hq3, hb2, hrl, hU, hB, hO, hQ] <;> rfl) ?_)
                  refine Run.c1 (c_bill_Used (acN a (a.ns ++ [(⟨known + 1, (t : Int), known + 1⟩ : Nt)])) day known) (by simp only [go_sem, gt_iff_lt, ge_iff_le, hq3, hb2, hrl, hU, hB, hO, hQ] <;> rfl) (by simp only [go_sem, gt_iff_lt, ge_iff_le, hq3, hb2, hrl, hU, hB, hO, hQ] <;> rfl) ?_
                  iterate 5 (refine Run.o1 (by simp only [go_sem, gt_iff_lt, ge_iff_le, hq3, hb2, hrl, hU, hB, hO, hQ] <;> rfl) ?_)
                  refine Run.nil ?_
                  refine Exec.reg ?_
                  iterate 3 (refine Run.o1 (by simp only [go_sem, gt_iff_lt, ge_iff_le, hq3, hb2, hrl, hU, hB, hO, hQ] <;> rfl) ?_)
                  iterate 8 (refine Run.s ?_)
                  iterate 2 (refine Run.o1 (by simp only [go_sem, gt_iff_lt, ge_iff_le, hq3, hb2, hrl, hU, hB, hO, hQ] <;> rfl) ?_)
                  refine Run.calw (by simp only [go_sem] <;> rfl) (c_law_awake) (by simp only [go_sem]) (by simp only [go_sem, gt_iff_lt, ge_iff_le, hq3, hb2, hrl, hU, hB, hO, hQ] <;> rfl) (by simp only [go_sem, gt_iff_lt, ge_iff_le, hq3, hb2, hrl, hU, hB, hO, hQ] <;> rfl) (by exact trivial) (fr0) (by simp only [go_sem, gt_iff_lt, ge_iff_le, hq3, hb2, hrl, hU, hB, hO, hQ] <;> rfl) ?_
                  iterate 2 (refine Run.o1 (by simp only [go_sem, gt_iff_lt, ge_iff_le, hq3, hb2, hrl, hU, hB, hO, hQ] <;> rfl) ?_)
                  refine Run.nil ?_
                  exact Ends.fin [] (rs := [.tmp 8]) rfl (by simp only [go_sem, gt_iff_lt, ge_iff_le, hq3, hb2, hrl, hU, hB, hO, hQ] <;> rfl) (by simp only [go_sem, gt_iff_lt, ge_iff_le, hq3, hb2, hrl, hU, hB, hO, hQ] <;> first | rfl | exact eqz)

end Go.Mw
namespace Go.Proofs.Ytabfdgdckmhhgaa
open Go.Mw Go.ChangeShapes Go.WideShapes Go.ChangeAt Go.RowKit

theorem own : ownKnob Try.prog.godebug = none := by kernel_rfl
theorem laidOut : laidOutB Try.prog = true := by kernel_rfl
set_option maxRecDepth 100000 in
theorem lifted (os : Os) (started : os.Started) (H : Type) (enc : TypeId × Value → H) :
    ReturnsInHanded {} Try.checked os 7 .any (Rows.billOrderSpec.pre6 enc Try.prog Try.f7 Rows.billOrderRow.domain false) (Rows.billOrderSpec.post enc Try.prog Try.f7 false true false false) := by
  refine returnsInHanded_of_change (C := Try.checked) own started (by kernel_rfl) Try.func7
    (ChangeSpec.witness6 (enc := enc) (C := Try.checked) false ⟨#[], #[.agg #[.int .i64 0, .int .i64 0, .int .i64 0, .int .i64 0, .slice none 0 0, .slice none 0 0, .slice none 0 0, .slice none 0 0], .int .i64 0, .int .i64 0, .int .u8 0], []⟩ 8 (by kernel_rfl) (by kernel_rfl) (by kernel_rfl) (by kernel_rfl)) ?_
  intro W base args ds gs before hval0 hW hcnd _
  have hval : ∀ (j : Nat) t v, Try.f7.params[j]? = some t → args[j]? = some v → Value.okWide Try.prog W .any base t v := hval0
  have hW' := hW
  obtain ⟨p, q, hA0, hV, rfl, hfz, hnd⟩ := hW
  have hA : DataW.TrodAll enc Try.prog W 0 (fun _ => true) true Try.f7.params.toList args.toList ds p := hA0
  rw [Try.params7] at hA hval
  obtain ⟨v0, v1, v2, v3, d0, d1, d2, d3, p0, p1, p2, p3, rfl, rfl, rfl, h0, h1, h2, h3⟩ := trodAll_four hA
  obtain ⟨rfl, rfl⟩ := trodVars_none hV
  obtain ⟨x0, hx0⟩ := ac_read (hval 0 27 v0 rfl rfl) h0
  obtain ⟨x1, hb1, hx1⟩ := int_read (k := .i64) (P := Try.prog) (by kernel_rfl) (hval 1 3 v1 rfl rfl) h1
  obtain ⟨x2, hb2, hx2⟩ := int_read (k := .i64) (P := Try.prog) (by kernel_rfl) (hval 2 3 v2 rfl rfl) h2
  obtain ⟨x3, hb3, hx3⟩ := u8_read (P := Try.prog) (by kernel_rfl) (hval 3 5 v3 rfl rfl) h3
  refine (row_con (c_law_BillOrder x0 x1 x2 x3 (by omega)) W [v0, v1, v2, v3] ⟨hx0, hx1, hx2, hx3, trivial⟩).mono fun e W' ⟨he, hb⟩ => ?_
  exact ⟨_, he, post_below (tb := 4) hW' hb rfl rfl rfl (by kernel_rfl) laidOut (by decide +kernel)⟩
theorem holds : Rows.BillOrderSaid :=
  OpenClaim.holds_of_wide 7 Try.f7 rfl rfl rfl rfl rfl rfl rfl ⟨rfl, rfl, rfl, rfl, rfl⟩ rfl rfl rfl rfl rfl (by kernel_rfl) Try.func7 (by kernel_rfl)
    (of_decide_eq_true (by kernel_rfl)) (by unfold Func.isWrapper; first | (rw [if_pos (by decide +kernel)]; kernel_rfl) | (rw [if_neg (by decide +kernel)]; exact ⟨rfl, rfl⟩))
    (fun os started H enc _ => lifted os started H enc)
end Go.Proofs.Ytabfdgdckmhhgaa
#print axioms Go.Proofs.Ytabfdgdckmhhgaa.holds

/- The statement about the term: a seal stands as its row says. -/
import Derived.Test.YtkekecfocnidpaaB10
import Derived.Test.YtkekecfocnidpaaB4
import Derived.Test.YtkekecfocnidpaaRows
set_option linter.unusedSimpArgs false
set_option linter.unusedVariables false
set_option linter.unusedSectionVars false
set_option linter.deprecated false
namespace Go.Mw
open Go.Proofs
open Go.Te
attribute [local go_sem] decide_true beq_self_eq_true bne_self_eq_false
theorem endR_er {s : Stk} {x : Int} (h : (endR s x).2.2 ≠ 0) (d : Int) : (endR s x).1 = 0 ∧ (endR s x).2.1 = 0 ∧ statR s x d = (0, (endR s x).2.2) := by
  unfold endR statR at *
  split
  · rename_i h1
    rw [if_pos h1] at h
    cases hr : rowI s x with
    | none => exact ⟨rfl, rfl, rfl⟩
    | some i => rw [hr] at h; exact absurd rfl h
  · exact ⟨rfl, rfl, rfl⟩
theorem stat_ok {s : Stk} {x : Int} {i : Nat} (h : (termsR s).2.2 = 0) (hi : rowI s x = some i) {d : Int} (hd : 0 ≤ d ∧ d ≤ 131072) : statR s x d = (if isBrk s x d = true then 3 else stOf (rowOf s i) (endAt (termsR s).1 i).1 d, 0) := by
  unfold statR
  rw [if_pos h, hi]
  simp only
  rw [if_neg (by rw [inB_iff.2 hd]; decide)]
theorem stat_rng {s : Stk} {x : Int} {i : Nat} (h : (termsR s).2.2 = 0) (hi : rowI s x = some i) {d : Int} (hd : ¬ (0 ≤ d ∧ d ≤ 131072)) : statR s x d = (0, 2) := by
  unfold statR
  rw [if_pos h, hi]
  simp only
  rw [if_pos (by rw [← Bool.not_eq_true, inB_iff]; exact hd)]
/-- Could an end come of a proof that does not pass, and of so many that do? -/
def exQ (e m : Int) (p : Pf) (k : Nat) : Bool := (List.range k).any fun n => e == p.day + 1 + n * m
def faQ (s : Stk) (r : Sl) (e : Int) (m : Int) (t : Nat) (p : Pf) : Bool := badP s r p && exQ e m p (t + 1)
theorem exQ_succ (e m : Int) (p : Pf) (k : Nat) : exQ e m p (k + 1) = (exQ e m p k || (e == p.day + 1 + k * m)) := by
  unfold exQ
  rw [List.range_succ, List.any_append, List.any_cons, List.any_nil, Bool.or_false]
theorem any_take' {α : Type} {l : List α} {k : Nat} {x : α} (q : α → Bool) (h : l[k]? = some x) : (l.take (k + 1)).any q = ((l.take k).any q || q x) := by
  rw [take_snoc' h, List.any_append, List.any_cons, List.any_nil, Bool.or_false]
theorem cnt_take {α : Type} {l : List α} {k : Nat} {b : α} (q : α → Bool) (h : l[k]? = some b) : (((l.take (k + 1)).countP q : Nat) : Int) = ((l.take k).countP q : Nat) + (if q b = true then 1 else 0) := by
  rw [take_snoc' h, List.countP_append, List.countP_cons, List.countP_nil]
  split <;> simp
theorem told_any {s : Stk} {r : Sl} {t : Int × Int} (h : Go.Te.Told s r s.ps t) : s.ps.any (faQ s r t.1 (clsOf s r.cl).more t.2.toNat) = true ∨ t.1 = r.day + (clsOf s r.cl).term + t.2 * (clsOf s r.cl).more := by
  rcases h.by_ with ⟨p, hp, h1, n, hn, h2⟩ | h2
  · refine .inl (List.any_eq_true.2 ⟨p, hp, ?_⟩)
    unfold faQ exQ
    rw [h1, Bool.true_and, List.any_eq_true]
    exact ⟨n, by rw [List.mem_range]; omega, by rw [h2]; exact beq_self_eq_true _⟩
  · exact .inr h2
set_option maxRecDepth 60000 in
set_option maxHeartbeats 64000000 in
/-- meterworks/meterworkslaw07.TermStands -/
theorem c_law_TermStands (s : Stk) (x d : Int) : Contract Try.prog 5 [stkV s, .int x, .int d] (.bool true) [] := by
  refine con_of follows_mixed Try.func5 rfl (by simp only [List.length_cons, List.length_nil, Try.ntmps5]; omega) (by kernel_rfl) rfl ?_
  refine Exec.reg ?_
  iterate 2 (refine Run.o ?_)
  refine Run.nil ?_
  refine Exec.assocS ?_
  refine Exec.reg ?_
  refine Run.o ?_
  refine Run.c1 (c_law_large s 1099511627776 (by decide)) (by simp only [go_sem] <;> rfl) (by simp only [go_sem] <;> rfl) ?_
  refine Run.nil ?_
  refine Exec.cndS (by simp only [go_sem] <;> rfl) (fun hb22 => ?_) (fun hb22 => ?_)
  · skip
    refine Exec.assocS ?_
    refine Exec.reg ?_
    refine Run.c1 (c_law_awake) (by simp only [go_sem] <;> rfl) (by simp only [go_sem] <;> rfl) ?_
    refine Run.o ?_
    refine Run.nil ?_
    refine Exec.retS ?_
    exact Ends.fin [] (rs := [.tmp 6]) rfl (by simp only [go_sem] <;> rfl) (by simp only [go_sem] <;> first | rfl | ((repeat' (first | with_reducible_and_instances rfl | refine st_eq ?_ ?_ ?_ | refine ret_eq ?_ | refine tup_eq ?_ | refine tm_eq ?_ ?_ | refine arr_eq ?_ | refine cells_eq ?_ | refine val_eq ?_ | refine ls_eq ?_ ?_ | refine own_eq ?_ ?_ | refine sl_eq ?_ | refine b_eq ?_ | (refine i_eq ?_; omega))); done))
  have hbl : largeB s 1099511627776 = false := by simpa using hb22
  obtain ⟨hsm, _⟩ := large_small hbl
  have hE := c_term_End s hsm x
  have hS := c_term_Status s hsm x d
  have hR := c_meterworksref07_Row s x (by have := hsm.rs; omega)
  unfold endV at hE
  unfold statV at hS
  refine Exec.skipS ?_
  refine Exec.reg ?_
  iterate 2 (refine Run.o ?_)
  refine Run.c1 (hE) (by simp only [go_sem] <;> rfl) (by simp only [go_sem] <;> rfl) ?_
  iterate 7 (refine Run.o ?_)
  refine Run.nil ?_
  refine Exec.reg ?_
  iterate 3 (refine Run.o ?_)
  refine Run.c1 (hS) (by simp only [go_sem] <;> rfl) (by simp only [go_sem] <;> rfl) ?_
  iterate 5 (refine Run.o ?_)
  refine Run.nil ?_
  refine Exec.assocS ?_
  refine Exec.reg ?_
  iterate 2 (refine Run.o ?_)
  refine Run.nil ?_
  refine Exec.cndS (by simp only [go_sem] <;> rfl) (fun hb39 => ?_) (fun hb39 => ?_)
  · skip
    have h1 : (endR s x).2.2 ≠ 0 := by simpa using hb39
    obtain ⟨q1, q2, q3⟩ := endR_er h1 d
    refine Exec.assocS ?_
    refine Exec.reg ?_
    refine Run.o ?_
    iterate 2 (refine Run.o1 (by simp only [go_sem, q1, q2, q3] <;> rfl) ?_)
    refine Run.y1 (by simp only [go_sem] <;> rfl) ?_
    refine Run.y1 (by simp only [go_sem, q1, q2, q3] <;> rfl) ?_
    iterate 2 (refine Run.o1 (by simp only [go_sem, q1, q2, q3] <;> rfl) ?_)
    refine Run.y1 (by simp only [go_sem] <;> rfl) ?_
    refine Run.y1 (by simp only [go_sem, q1, q2, q3] <;> rfl) ?_
    iterate 2 (refine Run.o1 (by simp only [go_sem, q1, q2, q3] <;> rfl) ?_)
    iterate 2 (refine Run.y1 (by simp only [go_sem] <;> rfl) ?_)
    refine Run.y1 (by simp only [go_sem, q1, q2, q3] <;> rfl) ?_
    iterate 2 (refine Run.o1 (by simp only [go_sem, q1, q2, q3] <;> rfl) ?_)
    refine Run.calw (by simp only [go_sem] <;> rfl) (c_law_awake) (by simp only [go_sem]) (by simp only [go_sem, q1, q2, q3] <;> rfl) (by simp only [go_sem, q1, q2, q3] <;> rfl) (by exact trivial) (fr0) (by simp only [go_sem, q1, q2, q3] <;> rfl) ?_
    refine Run.o1 (by simp only [go_sem, q1, q2, q3] <;> rfl) ?_
    refine Run.o ?_
    refine Run.nil ?_
    refine Exec.retS ?_
    exact Ends.fin [] (rs := [.tmp 6]) rfl (by simp only [go_sem, q1, q2, q3] <;> rfl) (by simp only [go_sem, q1, q2, q3] <;> first | rfl | ((repeat' (first | with_reducible_and_instances rfl | refine st_eq ?_ ?_ ?_ | refine ret_eq ?_ | refine tup_eq ?_ | refine tm_eq ?_ ?_ | refine arr_eq ?_ | refine cells_eq ?_ | refine val_eq ?_ | refine ls_eq ?_ ?_ | refine own_eq ?_ ?_ | refine sl_eq ?_ | refine b_eq ?_ | (refine i_eq ?_; omega))); done))
  have h1 : (endR s x).2.2 = 0 := by simpa using hb39
  obtain ⟨hok, ri, hri⟩ := endR_zero h1
  have hEr := endR_at hok hri
  have g := good_of hok
  have v := g.v
  have hst := (terms_zero hok).1
  obtain ⟨hril, hrin⟩ := rowI_lt hri
  have hrr := rowOf_get hril
  have hrv := v.row _ (rowOf_mem hril)
  have hcc := clsOf_get hrv.2.1.1 hrv.2.1.2
  have hcv := v.cls _ (cls_mem hrv.2.1.1 hrv.2.1.2)
  have hto := terms_told hok hril
  have hla := terms_late hok hril
  have hany := told_any hto
  have hps := v.nps
  obtain ⟨mm, hmm⟩ : ∃ y, (clsOf s (rowOf s ri).cl).more = y := ⟨_, rfl⟩
  obtain ⟨ee, hee⟩ : ∃ y, (endAt (termsR s).1 ri).1 = y := ⟨_, rfl⟩
  obtain ⟨et, het⟩ : ∃ y, (endAt (termsR s).1 ri).2 = y := ⟨_, rfl⟩
  have hlo := hto.lo
  have hhi := hto.hi
  have hle := hto.le
  rw [het] at hlo hhi hle
  rw [hmm, hee, het] at hany
  rw [hee] at hla
  rw [hee, het] at hEr
  rw [hEr] at hE h1
  rw [hri] at hR
  have hR : Contract Try.prog _ [stkV s, .int x] (.int (ri : Int)) [] := hR
  have hrn : ((ri : Int) < 0) = False := by simp
  have hrd : decide ((ri : Int) < 0) = false := by simp
  have htn : ((ri : Int)).toNat = ri := rfl
  have g1 : decide (et < 0) = false := decide_eq_false (by omega)
  have g2 : decide (et > (clsOf s (rowOf s ri).cl).times) = false := decide_eq_false (by omega)
  refine Exec.skipS ?_
  refine Exec.reg ?_
  refine Run.o1 (by simp only [go_sem, hEr, hst, hrd, hrr, htn, hcc, g1, g2, Bool.not_true] <;> rfl) ?_
  refine Run.o ?_
  refine Run.c1 (hR) (by simp only [go_sem, hEr, hst, hrd, hrr, htn, hcc, g1, g2, Bool.not_true] <;> rfl) (by simp only [go_sem, hEr, hst, hrd, hrr, htn, hcc, g1, g2, Bool.not_true] <;> rfl) ?_
  refine Run.o ?_
  refine Run.nil ?_
  refine Exec.assocS ?_
  refine Exec.reg ?_
  refine Run.o ?_
  iterate 2 (refine Run.o1 (by simp only [go_sem, hEr, hst, hrd, hrr, htn, hcc, g1, g2, Bool.not_true] <;> rfl) ?_)
  refine Run.y1 (by simp only [go_sem, hEr, hst, hrd, hrr, htn, hcc, g1, g2, Bool.not_true] <;> rfl) ?_
  refine Run.calw (by simp only [go_sem] <;> rfl) (c_meterworksref07_Stock s hsm) (by simp only [go_sem]) (by simp only [go_sem, hEr, hst, hrd, hrr, htn, hcc, g1, g2, Bool.not_true] <;> rfl) (by simp only [go_sem, hEr, hst, hrd, hrr, htn, hcc, g1, g2, Bool.not_true] <;> rfl) (by exact ⟨by first | exact WkR.pure rfl | exact WkR.nil _ | exact WkR.int (by first | omega | (simp; done) | (simp; omega)), trivial⟩) (fr0) (by simp only [go_sem, hEr, hst, hrd, hrr, htn, hcc, g1, g2, Bool.not_true] <;> rfl) ?_
  refine Run.y1 (by simp only [go_sem, hEr, hst, hrd, hrr, htn, hcc, g1, g2, Bool.not_true] <;> rfl) ?_
  refine Run.o1 (by simp only [go_sem, hEr, hst, hrd, hrr, htn, hcc, g1, g2, Bool.not_true] <;> rfl) ?_
  refine Run.nil ?_
  refine Exec.cndS (by simp only [go_sem, hEr, hst, hrd, hrr, htn, hcc, g1, g2, Bool.not_true] <;> rfl) (fun hb67 => ?_) (fun hb67 => ?_)
  · exact absurd hb67 (by simp)
  refine Exec.skipS ?_
  refine Exec.reg ?_
  refine Run.o ?_
  refine Run.o1 (by simp only [go_sem, hEr, hst, hrd, hrr, htn, hcc, g1, g2, Bool.not_true] <;> rfl) ?_
  refine Run.o ?_
  refine Run.o1 (by simp only [go_sem, hEr, hst, hrd, hrr, htn, hcc, g1, g2, Bool.not_true]; (try simp (disch := omega) only [if_pos]); (try simp only [go_sem, hEr, hst, hrd, hrr, htn, hcc, g1, g2, Bool.not_true])<;> rfl) ?_
  refine Run.o1 (by simp only [go_sem, hEr, hst, hrd, hrr, htn, hcc, g1, g2, Bool.not_true] <;> rfl) ?_
  iterate 2 (refine Run.o ?_)
  refine Run.nil ?_
  refine Exec.reg ?_
  refine Run.o ?_
  refine Run.o1 (by simp only [go_sem, hEr, hst, hrd, hrr, htn, hcc, g1, g2, Bool.not_true] <;> rfl) ?_
  refine Run.o ?_
  refine Run.o1 (by simp only [go_sem, hEr, hst, hrd, hrr, htn, hcc, g1, g2, Bool.not_true] <;> rfl) ?_
  refine Run.o1 (by simp only [go_sem, hEr, hst, hrd, hrr, htn, hcc, g1, g2, Bool.not_true]; (try simp (disch := omega) only [if_pos]); (try simp only [go_sem, hEr, hst, hrd, hrr, htn, hcc, g1, g2, Bool.not_true])<;> rfl) ?_
  refine Run.o1 (by simp only [go_sem, hEr, hst, hrd, hrr, htn, hcc, g1, g2, Bool.not_true] <;> rfl) ?_
  iterate 2 (refine Run.o ?_)
  refine Run.nil ?_
  refine Exec.assocS ?_
  refine Exec.reg ?_
  refine Run.o ?_
  iterate 2 (refine Run.o1 (by simp only [go_sem, hEr, hst, hrd, hrr, htn, hcc, g1, g2, Bool.not_true] <;> rfl) ?_)
  iterate 2 (refine Run.y1 (by simp only [go_sem] <;> rfl) ?_)
  iterate 2 (refine Run.y1 (by simp only [go_sem, hEr, hst, hrd, hrr, htn, hcc, g1, g2, Bool.not_true] <;> rfl) ?_)
  refine Run.o1 (by simp only [go_sem, hEr, hst, hrd, hrr, htn, hcc, g1, g2, Bool.not_true] <;> rfl) ?_
  refine Run.nil ?_
  refine Exec.cndS (by simp only [go_sem, hEr, hst, hrd, hrr, htn, hcc, g1, g2, Bool.not_true] <;> rfl) (fun hb86 => ?_) (fun hb86 => ?_)
  · exact absurd hb86 (by simp)
  refine Exec.skipS ?_
  refine Exec.reg ?_
  iterate 2 (refine Run.o ?_)
  refine Run.nil ?_
  refine Exec.assocS ?_
  refine Exec.reg ?_
  refine Run.o ?_
  refine Run.nil ?_
  refine Exec.blk ?_
  refine Exec.forA [1, 2, 3, 7, 8, 10, 11, 13, 14, 15, 16, 17] [3, 13, 14] (s.ps.length) (fun k => [.slot 17 (.int k), .slot 15 (.int (((s.ps.take k).countP (okP s (rowOf s ri)) : Nat) : Int)), .slot 16 (.bool ((s.ps.take k).any (faQ s (rowOf s ri) ee mm et.toNat)))]) (fun _ => True) (fun k => by simp only [go_sem] <;> rfl) (by simp only [go_sem, hEr, hst, hrd, hrr, htn, hcc, g1, g2, Bool.not_true, List.take_zero, List.countP_nil, List.any_nil, Int.natCast_zero] <;> rfl) ?_ (fun k hk hX => ?_)
  · trivial
  refine Exec.assocS ?_
  refine Exec.reg ?_
  iterate 2 (refine Run.o ?_)
  iterate 3 (refine Run.o1 (by simp only [go_sem, hEr, hst, hrd, hrr, htn, hcc, g1, g2, Bool.not_true] <;> rfl) ?_)
  refine Run.nil ?_
  refine Exec.cndS (by simp only [go_sem, hEr, hst, hrd, hrr, htn, hcc, g1, g2, Bool.not_true] <;> rfl) (fun hb91 => ?_) (fun hb91 => ?_)
  · skip
    have hlt := lt_of_dec hb91
    obtain ⟨p, hp⟩ : ∃ p, s.ps[k]? = some p := ⟨_, List.getElem?_eq_getElem hlt⟩
    have hpv := v.prf p (List.mem_of_getElem? hp)
    have hK := cnt_take (okP s (rowOf s ri)) hp
    have hA := any_take' (faQ s (rowOf s ri) ee mm et.toNat) hp
    have hKk : (s.ps.take k).countP (okP s (rowOf s ri)) ≤ (s.ps.take k).length := List.countP_le_length
    rw [List.length_take] at hKk
    have hcp := clsOf_get hpv.1.1 hpv.1.2
    have hPass := c_meterworksref07_Passes s p (clsOf s p.cl) hcp hpv.1.1 (by omega)
    have ePass : decide ((popc p.failed.toNat : Int) ≤ (clsOf s p.cl).fail) = passB s p := rfl
    rw [ePass] at hPass
    refine Exec.skipS ?_
    refine Exec.blk ?_
    refine Exec.reg ?_
    refine Run.o ?_
    refine Run.o1 (by simp only [go_sem, hEr, hst, hrd, hrr, htn, hcc, g1, g2, Bool.not_true, hp] <;> rfl) ?_
    refine Run.o ?_
    refine Run.o1 (by simp only [go_sem, hEr, hst, hrd, hrr, htn, hcc, g1, g2, Bool.not_true, hp]; (try simp (disch := omega) only [if_pos]); (try simp only [go_sem, hEr, hst, hrd, hrr, htn, hcc, g1, g2, Bool.not_true, hp])<;> rfl) ?_
    refine Run.o1 (by simp only [go_sem, hEr, hst, hrd, hrr, htn, hcc, g1, g2, Bool.not_true, hp] <;> rfl) ?_
    iterate 2 (refine Run.o ?_)
    refine Run.nil ?_
    refine Exec.assocS ?_
    by_cases hcl : p.cl = (rowOf s ri).cl
    · skip
      have g5 : (p.cl != (rowOf s ri).cl) = false := by rw [hcl, bne_self_eq_false]
      refine Exec.reg ?_
      refine Run.o ?_
      refine Run.o1 (by simp only [go_sem, hEr, hst, hrd, hrr, htn, hcc, g1, g2, Bool.not_true, hp, g5] <;> rfl) ?_
      refine Run.o ?_
      iterate 3 (refine Run.o1 (by simp only [go_sem, hEr, hst, hrd, hrr, htn, hcc, g1, g2, Bool.not_true, hp, g5] <;> rfl) ?_)
      refine Run.y1 (by simp only [go_sem] <;> rfl) ?_
      refine Run.y1 (by simp only [go_sem, hEr, hst, hrd, hrr, htn, hcc, g1, g2, Bool.not_true, hp, g5] <;> rfl) ?_
      refine Run.y1 (by simp only [go_sem] <;> rfl) ?_
      iterate 2 (refine Run.y1 (by simp only [go_sem, hEr, hst, hrd, hrr, htn, hcc, g1, g2, Bool.not_true, hp, g5] <;> rfl) ?_)
      refine Run.o1 (by simp only [go_sem, hEr, hst, hrd, hrr, htn, hcc, g1, g2, Bool.not_true, hp, g5] <;> rfl) ?_
      refine Run.nil ?_
      refine Exec.cndS (by simp only [go_sem, hEr, hst, hrd, hrr, htn, hcc, g1, g2, Bool.not_true, hp, g5] <;> rfl) (fun hb110 => ?_) (fun hb110 => ?_)
      · skip
        have hcd : (decide (p.cl = (rowOf s ri).cl) && decide ((rowOf s ri).day ≤ p.day)) = false := by
          rw [← Bool.not_eq_true, Bool.and_eq_true, decide_eq_true_eq, decide_eq_true_eq]
          simp only [Bool.or_eq_true, bne_iff_ne, ne_eq, decide_eq_true_eq] at hb110
          omega
        have q1 : okP s (rowOf s ri) p = false := by unfold okP; rw [hcd, Bool.false_and]
        have q2 : faQ s (rowOf s ri) ee mm et.toNat p = false := by unfold faQ badP; rw [hcd, Bool.false_and, Bool.false_and]
        rw [q1, if_neg (by decide), Int.add_zero] at hK
        rw [q2, Bool.or_false] at hA
        refine Exec.exitS ?_
        refine BlkK.hit ?_
        refine Exec.reg1 ?_
        refine Run.o ?_
        refine Run.o1 (by simp only [go_sem, hEr, hst, hrd, hrr, htn, hcc, g1, g2, Bool.not_true, hp, g5, hK, hA]; (try simp (disch := omega) only [IntWalk.i64_in, IntWalk.u64_in, if_neg, if_pos])<;> rfl) ?_
        refine Run.o ?_
        refine Run.nil ?_
        refine ForK.nxt ?_ ?_ ?_
        · omega
        · exact Ghost.kp [1, 2, 3, 7, 8, 10, 11, 13, 14, 15, 16, 17] [3, 13, 14] (by simp only [go_sem, hEr, hst, hrd, hrr, htn, hcc, g1, g2, Bool.not_true, hp, g5, hK, hA]; first | ((repeat' (first | with_reducible_and_instances rfl | refine st_eq ?_ ?_ ?_ | refine ret_eq ?_ | refine tup_eq ?_ | refine tm_eq ?_ ?_ | refine arr_eq ?_ | refine cells_eq ?_ | refine val_eq ?_ | refine ls_eq ?_ ?_ | refine own_eq ?_ ?_ | refine sl_eq ?_ | refine b_eq ?_ | (refine i_eq ?_; omega))); done) | rfl)
        · trivial
      have hcd : (decide (p.cl = (rowOf s ri).cl) && decide ((rowOf s ri).day ≤ p.day)) = true := by
        rw [Bool.and_eq_true, decide_eq_true_eq, decide_eq_true_eq]
        simp only [Bool.or_eq_false_iff, bne_eq_false_iff_eq, decide_eq_false_iff_not] at hb110
        omega
      have q1 : okP s (rowOf s ri) p = passB s p := by unfold okP; rw [hcd, Bool.true_and]
      have q2 : faQ s (rowOf s ri) ee mm et.toNat p = (!passB s p && exQ ee mm p (et.toNat + 1)) := by unfold faQ badP; rw [hcd, Bool.true_and]
      refine Exec.skipS ?_
      refine Exec.reg ?_
      iterate 2 (refine Run.o1 (by simp only [go_sem, hEr, hst, hrd, hrr, htn, hcc, g1, g2, Bool.not_true, hp, g5] <;> rfl) ?_)
      refine Run.c1 (hPass) (by simp only [go_sem, hEr, hst, hrd, hrr, htn, hcc, g1, g2, Bool.not_true, hp, g5] <;> rfl) (by simp only [go_sem, hEr, hst, hrd, hrr, htn, hcc, g1, g2, Bool.not_true, hp, g5] <;> rfl) ?_
      refine Run.nil ?_
      refine Exec.cnd (by simp only [go_sem, hEr, hst, hrd, hrr, htn, hcc, g1, g2, Bool.not_true, hp, g5] <;> rfl) (fun hb113 => ?_) (fun hb113 => ?_)
      · skip
        have hpb : passB s p = true := by simpa using hb113
        rw [hpb] at q1 q2
        rw [q1, if_pos rfl] at hK
        rw [q2, Bool.not_true, Bool.false_and, Bool.or_false] at hA
        refine Exec.reg1 ?_
        refine Run.o ?_
        refine Run.o1 (by simp only [go_sem, hEr, hst, hrd, hrr, htn, hcc, g1, g2, Bool.not_true, hp, g5, hK, hA]; (try simp (disch := omega) only [IntWalk.i64_in, IntWalk.u64_in, if_neg, if_pos])<;> rfl) ?_
        refine Run.o ?_
        refine Run.nil ?_
        refine BlkK.nrm ?_
        refine Exec.reg1 ?_
        refine Run.o ?_
        refine Run.o1 (by simp only [go_sem, hEr, hst, hrd, hrr, htn, hcc, g1, g2, Bool.not_true, hp, g5, hK, hA]; (try simp (disch := omega) only [IntWalk.i64_in, IntWalk.u64_in, if_neg, if_pos])<;> rfl) ?_
        refine Run.o ?_
        refine Run.nil ?_
        refine ForK.nxt ?_ ?_ ?_
        · omega
        · exact Ghost.kp [1, 2, 3, 7, 8, 10, 11, 13, 14, 15, 16, 17] [3, 13, 14] (by simp only [go_sem, hEr, hst, hrd, hrr, htn, hcc, g1, g2, Bool.not_true, hp, g5, hK, hA]; first | ((repeat' (first | with_reducible_and_instances rfl | refine st_eq ?_ ?_ ?_ | refine ret_eq ?_ | refine tup_eq ?_ | refine tm_eq ?_ ?_ | refine arr_eq ?_ | refine cells_eq ?_ | refine val_eq ?_ | refine ls_eq ?_ ?_ | refine own_eq ?_ ?_ | refine sl_eq ?_ | refine b_eq ?_ | (refine i_eq ?_; omega))); done) | rfl)
        · trivial
      have hpb : passB s p = false := by simpa using hb113
      rw [hpb] at q1 q2
      rw [q1, if_neg (by decide), Int.add_zero] at hK
      rw [q2, Bool.not_false, Bool.true_and] at hA
      obtain ⟨A, hAe⟩ : ∃ y, (s.ps.take k).any (faQ s (rowOf s ri) ee mm et.toNat) = y := ⟨_, rfl⟩
      rw [hAe] at hA
      refine Exec.reg ?_
      refine Run.o ?_
      refine Run.nil ?_
      refine Exec.blk1 ?_
      refine Exec.forA [1, 2, 3, 7, 8, 10, 11, 13, 14, 15, 16, 17, 18, 19] [3, 13, 14, 18] (et.toNat + 1) (fun m => [.slot 19 (.int m), .slot 16 (.bool (A || exQ ee mm p m))]) (fun _ => True) (fun m => by simp only [go_sem] <;> rfl) (by simp only [go_sem, hEr, hst, hrd, hrr, htn, hcc, g1, g2, Bool.not_true, hp, g5, hAe, exQ, List.range_zero, List.any_nil, Bool.or_false, Int.natCast_zero] <;> rfl) ?_ (fun m hm Xm => ?_)
      · trivial
      refine Exec.assocS ?_
      refine Exec.reg ?_
      iterate 2 (refine Run.o ?_)
      refine Run.o1 (by simp only [go_sem, hEr, hst, hrd, hrr, htn, hcc, g1, g2, Bool.not_true, hp, g5, hAe] <;> rfl) ?_
      refine Run.nil ?_
      refine Exec.cndS (by simp only [go_sem, hEr, hst, hrd, hrr, htn, hcc, g1, g2, Bool.not_true, hp, g5, hAe] <;> rfl) (fun hb118 => ?_) (fun hb118 => ?_)
      · skip
        have hmt : (m : Int) ≤ et := of_decide_eq_true hb118
        have hex := exQ_succ ee mm p m
        have hmul : 0 ≤ (m : Int) * mm ∧ (m : Int) * mm ≤ 4 * 10000 := by
          have h1 : (m : Int) ≤ 4 := by omega
          refine ⟨Int.mul_nonneg (by omega) (by omega), ?_⟩
          exact Int.le_trans (Int.mul_le_mul_of_nonneg_right h1 (by omega)) (Int.mul_le_mul_of_nonneg_left (by omega) (by omega))
        refine Exec.skipS ?_
        refine Exec.blk ?_
        by_cases hA1 : A = true
        · skip
          subst hA1
          refine Exec.reg1 ?_
          refine Run.o ?_
          refine Run.o1 (by simp only [go_sem, hEr, hst, hrd, hrr, htn, hcc, g1, g2, Bool.not_true, hp, g5, hAe, hex, hmm, Bool.true_or] <;> rfl) ?_
          iterate 10 (refine Run.s ?_)
          refine Run.o1 (by simp only [go_sem, hEr, hst, hrd, hrr, htn, hcc, g1, g2, Bool.not_true, hp, g5, hAe, hex, hmm, Bool.true_or] <;> rfl) ?_
          refine Run.o ?_
          refine Run.nil ?_
          refine BlkK.nrm ?_
          refine Exec.reg1 ?_
          refine Run.o ?_
          refine Run.o1 (by simp only [go_sem, hEr, hst, hrd, hrr, htn, hcc, g1, g2, Bool.not_true, hp, g5, hAe, hex, hmm, Bool.true_or]; (try simp (disch := omega) only [IntWalk.i64_in, IntWalk.u64_in, if_neg, if_pos])<;> rfl) ?_
          refine Run.o ?_
          refine Run.nil ?_
          refine ForK.nxt ?_ ?_ ?_
          · omega
          · exact Ghost.kp [1, 2, 3, 7, 8, 10, 11, 13, 14, 15, 16, 17, 18, 19] [3, 13, 14, 18] (by simp only [go_sem, hEr, hst, hrd, hrr, htn, hcc, g1, g2, Bool.not_true, hp, g5, hAe, hex, hmm, Bool.true_or]; first | ((repeat' (first | with_reducible_and_instances rfl | refine st_eq ?_ ?_ ?_ | refine ret_eq ?_ | refine tup_eq ?_ | refine tm_eq ?_ ?_ | refine arr_eq ?_ | refine cells_eq ?_ | refine val_eq ?_ | refine ls_eq ?_ ?_ | refine own_eq ?_ ?_ | refine sl_eq ?_ | refine b_eq ?_ | (refine i_eq ?_; omega))); done) | rfl)
          · trivial
        have hA1 : A = false := by simpa using hA1
        subst hA1
        by_cases hE1 : exQ ee mm p m = true
        · skip
          refine Exec.reg1 ?_
          refine Run.o ?_
          refine Run.o1 (by simp only [go_sem, hEr, hst, hrd, hrr, htn, hcc, g1, g2, Bool.not_true, hp, g5, hAe, hex, hmm, Bool.false_or, hE1, Bool.true_or] <;> rfl) ?_
          iterate 10 (refine Run.s ?_)
          refine Run.o1 (by simp only [go_sem, hEr, hst, hrd, hrr, htn, hcc, g1, g2, Bool.not_true, hp, g5, hAe, hex, hmm, Bool.false_or, hE1, Bool.true_or] <;> rfl) ?_
          refine Run.o ?_
          refine Run.nil ?_
          refine BlkK.nrm ?_
          refine Exec.reg1 ?_
          refine Run.o ?_
          refine Run.o1 (by simp only [go_sem, hEr, hst, hrd, hrr, htn, hcc, g1, g2, Bool.not_true, hp, g5, hAe, hex, hmm, Bool.false_or, hE1, Bool.true_or]; (try simp (disch := omega) only [IntWalk.i64_in, IntWalk.u64_in, if_neg, if_pos])<;> rfl) ?_
          refine Run.o ?_
          refine Run.nil ?_
          refine ForK.nxt ?_ ?_ ?_
          · omega
          · exact Ghost.kp [1, 2, 3, 7, 8, 10, 11, 13, 14, 15, 16, 17, 18, 19] [3, 13, 14, 18] (by simp only [go_sem, hEr, hst, hrd, hrr, htn, hcc, g1, g2, Bool.not_true, hp, g5, hAe, hex, hmm, Bool.false_or, hE1, Bool.true_or]; first | ((repeat' (first | with_reducible_and_instances rfl | refine st_eq ?_ ?_ ?_ | refine ret_eq ?_ | refine tup_eq ?_ | refine tm_eq ?_ ?_ | refine arr_eq ?_ | refine cells_eq ?_ | refine val_eq ?_ | refine ls_eq ?_ ?_ | refine own_eq ?_ ?_ | refine sl_eq ?_ | refine b_eq ?_ | (refine i_eq ?_; omega))); done) | rfl)
          · trivial
        have hE1 : exQ ee mm p m = false := by simpa using hE1
        refine Exec.reg1 ?_
        refine Run.o ?_
        refine Run.o1 (by simp only [go_sem, hEr, hst, hrd, hrr, htn, hcc, g1, g2, Bool.not_true, hp, g5, hAe, hex, hmm, Bool.false_or, hE1, Bool.false_or] <;> rfl) ?_
        iterate 2 (refine Run.y1 (by simp only [go_sem] <;> rfl) ?_)
        refine Run.y1 (by simp only [go_sem, hEr, hst, hrd, hrr, htn, hcc, g1, g2, Bool.not_true, hp, g5, hAe, hex, hmm, Bool.false_or, hE1, Bool.false_or] <;> rfl) ?_
        refine Run.y1 (by simp only [go_sem, hEr, hst, hrd, hrr, htn, hcc, g1, g2, Bool.not_true, hp, g5, hAe, hex, hmm, Bool.false_or, hE1, Bool.false_or]; (try simp (disch := omega) only [IntWalk.i64_in, IntWalk.u64_in, if_neg, if_pos])<;> rfl) ?_
        iterate 2 (refine Run.y1 (by simp only [go_sem] <;> rfl) ?_)
        refine Run.y1 (by simp only [go_sem, hEr, hst, hrd, hrr, htn, hcc, g1, g2, Bool.not_true, hp, g5, hAe, hex, hmm, Bool.false_or, hE1, Bool.false_or] <;> rfl) ?_
        iterate 2 (refine Run.y1 (by simp only [go_sem, hEr, hst, hrd, hrr, htn, hcc, g1, g2, Bool.not_true, hp, g5, hAe, hex, hmm, Bool.false_or, hE1, Bool.false_or]; (try simp (disch := omega) only [IntWalk.i64_in, IntWalk.u64_in, if_neg, if_pos])<;> rfl) ?_)
        refine Run.y1 (by simp only [go_sem, hEr, hst, hrd, hrr, htn, hcc, g1, g2, Bool.not_true, hp, g5, hAe, hex, hmm, Bool.false_or, hE1, Bool.false_or] <;> rfl) ?_
        refine Run.o1 (by simp only [go_sem, hEr, hst, hrd, hrr, htn, hcc, g1, g2, Bool.not_true, hp, g5, hAe, hex, hmm, Bool.false_or, hE1, Bool.false_or] <;> rfl) ?_
        refine Run.o ?_
        refine Run.nil ?_
        refine BlkK.nrm ?_
        refine Exec.reg1 ?_
        refine Run.o ?_
        refine Run.o1 (by simp only [go_sem, hEr, hst, hrd, hrr, htn, hcc, g1, g2, Bool.not_true, hp, g5, hAe, hex, hmm, Bool.false_or, hE1, Bool.false_or]; (try simp (disch := omega) only [IntWalk.i64_in, IntWalk.u64_in, if_neg, if_pos])<;> rfl) ?_
        refine Run.o ?_
        refine Run.nil ?_
        refine ForK.nxt ?_ ?_ ?_
        · omega
        · exact Ghost.kp [1, 2, 3, 7, 8, 10, 11, 13, 14, 15, 16, 17, 18, 19] [3, 13, 14, 18] (by simp only [go_sem, hEr, hst, hrd, hrr, htn, hcc, g1, g2, Bool.not_true, hp, g5, hAe, hex, hmm, Bool.false_or, hE1, Bool.false_or]; first | ((repeat' (first | with_reducible_and_instances rfl | refine st_eq ?_ ?_ ?_ | refine ret_eq ?_ | refine tup_eq ?_ | refine tm_eq ?_ ?_ | refine arr_eq ?_ | refine cells_eq ?_ | refine val_eq ?_ | refine ls_eq ?_ ?_ | refine own_eq ?_ ?_ | refine sl_eq ?_ | refine b_eq ?_ | (refine i_eq ?_; omega))); done) | rfl)
        · trivial
      have hme : m = et.toNat + 1 := by have : ¬ (m : Int) ≤ et := of_decide_eq_false hb118; omega
      subst hme
      refine Exec.exitS ?_
      refine ForK.ext ?_
      refine Blk1K.hit ?_
      refine BlkK.nrm ?_
      refine Exec.reg1 ?_
      refine Run.o ?_
      refine Run.o1 (by simp only [go_sem, hEr, hst, hrd, hrr, htn, hcc, g1, g2, Bool.not_true, hp, g5, hAe, hK, hA]; (try simp (disch := omega) only [IntWalk.i64_in, IntWalk.u64_in, if_neg, if_pos])<;> rfl) ?_
      refine Run.o ?_
      refine Run.nil ?_
      refine ForK.nxt ?_ ?_ ?_
      · omega
      · exact Ghost.kp [1, 2, 3, 7, 8, 10, 11, 13, 14, 15, 16, 17] [3, 13, 14] (by simp only [go_sem, hEr, hst, hrd, hrr, htn, hcc, g1, g2, Bool.not_true, hp, g5, hAe, hK, hA]; first | ((repeat' (first | with_reducible_and_instances rfl | refine st_eq ?_ ?_ ?_ | refine ret_eq ?_ | refine tup_eq ?_ | refine tm_eq ?_ ?_ | refine arr_eq ?_ | refine cells_eq ?_ | refine val_eq ?_ | refine ls_eq ?_ ?_ | refine own_eq ?_ ?_ | refine sl_eq ?_ | refine b_eq ?_ | (refine i_eq ?_; omega))); done) | rfl)
      · trivial
    have g5 : (p.cl != (rowOf s ri).cl) = true := by simpa using hcl
    refine Exec.reg ?_
    refine Run.o ?_
    refine Run.o1 (by simp only [go_sem, hEr, hst, hrd, hrr, htn, hcc, g1, g2, Bool.not_true, hp, g5] <;> rfl) ?_
    refine Run.o ?_
    iterate 3 (refine Run.o1 (by simp only [go_sem, hEr, hst, hrd, hrr, htn, hcc, g1, g2, Bool.not_true, hp, g5] <;> rfl) ?_)
    iterate 5 (refine Run.s ?_)
    refine Run.o1 (by simp only [go_sem, hEr, hst, hrd, hrr, htn, hcc, g1, g2, Bool.not_true, hp, g5] <;> rfl) ?_
    refine Run.nil ?_
    refine Exec.cndS (by simp only [go_sem, hEr, hst, hrd, hrr, htn, hcc, g1, g2, Bool.not_true, hp, g5] <;> rfl) (fun hb110 => ?_) (fun hb110 => ?_)
    · skip
      have hcd : (decide (p.cl = (rowOf s ri).cl) && decide ((rowOf s ri).day ≤ p.day)) = false := by
        rw [← Bool.not_eq_true, Bool.and_eq_true, decide_eq_true_eq, decide_eq_true_eq]
        simp only [Bool.or_eq_true, bne_iff_ne, ne_eq, decide_eq_true_eq] at hb110
        omega
      have q1 : okP s (rowOf s ri) p = false := by unfold okP; rw [hcd, Bool.false_and]
      have q2 : faQ s (rowOf s ri) ee mm et.toNat p = false := by unfold faQ badP; rw [hcd, Bool.false_and, Bool.false_and]
      rw [q1, if_neg (by decide), Int.add_zero] at hK
      rw [q2, Bool.or_false] at hA
      refine Exec.exitS ?_
      refine BlkK.hit ?_
      refine Exec.reg1 ?_
      refine Run.o ?_
      refine Run.o1 (by simp only [go_sem, hEr, hst, hrd, hrr, htn, hcc, g1, g2, Bool.not_true, hp, g5, hK, hA]; (try simp (disch := omega) only [IntWalk.i64_in, IntWalk.u64_in, if_neg, if_pos])<;> rfl) ?_
      refine Run.o ?_
      refine Run.nil ?_
      refine ForK.nxt ?_ ?_ ?_
      · omega
      · exact Ghost.kp [1, 2, 3, 7, 8, 10, 11, 13, 14, 15, 16, 17] [3, 13, 14] (by simp only [go_sem, hEr, hst, hrd, hrr, htn, hcc, g1, g2, Bool.not_true, hp, g5, hK, hA]; first | ((repeat' (first | with_reducible_and_instances rfl | refine st_eq ?_ ?_ ?_ | refine ret_eq ?_ | refine tup_eq ?_ | refine tm_eq ?_ ?_ | refine arr_eq ?_ | refine cells_eq ?_ | refine val_eq ?_ | refine ls_eq ?_ ?_ | refine own_eq ?_ ?_ | refine sl_eq ?_ | refine b_eq ?_ | (refine i_eq ?_; omega))); done) | rfl)
      · trivial
    · exact absurd hb110 (by simp)
  have hke : k = s.ps.length := by have := ge_of_dec hb91; omega
  subst hke
  have g3 : decide (et > (s.ps.countP (okP s (rowOf s ri)) : Int)) = false := decide_eq_false (by omega)
  have g4 : decide (ee ≤ (rowOf s ri).day) = false := decide_eq_false (by omega)
  have hmul : 0 ≤ et * mm ∧ et * mm ≤ 4 * 10000 := by
    refine ⟨Int.mul_nonneg (by omega) (by omega), ?_⟩
    exact Int.le_trans (Int.mul_le_mul_of_nonneg_right (by omega : et ≤ 4) (by omega)) (Int.mul_le_mul_of_nonneg_left (by omega) (by omega))
  refine Exec.exitS ?_
  refine ForK.ext ?_
  refine BlkK.hit ?_
  refine Exec.assocS ?_
  by_cases hF : s.ps.any (faQ s (rowOf s ri) ee mm et.toNat) = true
  · skip
    refine Exec.reg ?_
    iterate 2 (refine Run.o ?_)
    iterate 2 (refine Run.o1 (by simp only [go_sem, hEr, hst, hrd, hrr, htn, hcc, g1, g2, Bool.not_true, g3, g4, List.take_length, hmm, hF, Bool.not_true] <;> rfl) ?_)
    refine Run.y1 (by simp only [go_sem] <;> rfl) ?_
    iterate 2 (refine Run.y1 (by simp only [go_sem, hEr, hst, hrd, hrr, htn, hcc, g1, g2, Bool.not_true, g3, g4, List.take_length, hmm, hF, Bool.not_true] <;> rfl) ?_)
    iterate 12 (refine Run.s ?_)
    refine Run.y1 (by simp only [go_sem, hEr, hst, hrd, hrr, htn, hcc, g1, g2, Bool.not_true, g3, g4, List.take_length, hmm, hF, Bool.not_true] <;> rfl) ?_
    iterate 2 (refine Run.o1 (by simp only [go_sem, hEr, hst, hrd, hrr, htn, hcc, g1, g2, Bool.not_true, g3, g4, List.take_length, hmm, hF, Bool.not_true] <;> rfl) ?_)
    iterate 2 (refine Run.y1 (by simp only [go_sem] <;> rfl) ?_)
    iterate 2 (refine Run.y1 (by simp only [go_sem, hEr, hst, hrd, hrr, htn, hcc, g1, g2, Bool.not_true, g3, g4, List.take_length, hmm, hF, Bool.not_true] <;> rfl) ?_)
    refine Run.o1 (by simp only [go_sem, hEr, hst, hrd, hrr, htn, hcc, g1, g2, Bool.not_true, g3, g4, List.take_length, hmm, hF, Bool.not_true] <;> rfl) ?_
    refine Run.nil ?_
    refine Exec.cndS (by simp only [go_sem, hEr, hst, hrd, hrr, htn, hcc, g1, g2, Bool.not_true, g3, g4, List.take_length, hmm, hF, Bool.not_true] <;> rfl) (fun hb160 => ?_) (fun hb160 => ?_)
    · exact absurd hb160 (by simp)
    refine Exec.skipS ?_
    refine Exec.assocS ?_
    refine Exec.reg ?_
    refine Run.o ?_
    refine Run.o1 (by simp only [go_sem, hEr, hst, hrd, hrr, htn, hcc, g1, g2, Bool.not_true, g3, g4, List.take_length, hmm, hF, Bool.not_true] <;> rfl) ?_
    refine Run.nil ?_
    refine Exec.cndS (by simp only [go_sem, hEr, hst, hrd, hrr, htn, hcc, g1, g2, Bool.not_true, g3, g4, List.take_length, hmm, hF, Bool.not_true] <;> rfl) (fun hb162 => ?_) (fun hb162 => ?_)
    · skip
      have hdr : ¬ (0 ≤ d ∧ d ≤ 131072) := fun hh => by rw [stat_ok hok hri hh] at hb162; simp at hb162
      have hSr := stat_rng hok hri hdr
      refine Exec.assocS ?_
      by_cases hdn : d < 0
      · skip
        have g7 : decide (d < 0) = true := decide_eq_true hdn
        refine Exec.reg ?_
        refine Run.o ?_
        iterate 2 (refine Run.o1 (by simp only [go_sem, hEr, hst, hrd, hrr, htn, hcc, g1, g2, Bool.not_true, g3, g4, List.take_length, hmm, hF, Bool.not_true, hSr, g7] <;> rfl) ?_)
        refine Run.y1 (by simp only [go_sem] <;> rfl) ?_
        refine Run.y1 (by simp only [go_sem, hEr, hst, hrd, hrr, htn, hcc, g1, g2, Bool.not_true, g3, g4, List.take_length, hmm, hF, Bool.not_true, hSr, g7] <;> rfl) ?_
        iterate 2 (refine Run.o1 (by simp only [go_sem, hEr, hst, hrd, hrr, htn, hcc, g1, g2, Bool.not_true, g3, g4, List.take_length, hmm, hF, Bool.not_true, hSr, g7] <;> rfl) ?_)
        refine Run.y1 (by simp only [go_sem] <;> rfl) ?_
        iterate 2 (refine Run.y1 (by simp only [go_sem, hEr, hst, hrd, hrr, htn, hcc, g1, g2, Bool.not_true, g3, g4, List.take_length, hmm, hF, Bool.not_true, hSr, g7] <;> rfl) ?_)
        iterate 2 (refine Run.s ?_)
        refine Run.y1 (by simp only [go_sem, hEr, hst, hrd, hrr, htn, hcc, g1, g2, Bool.not_true, g3, g4, List.take_length, hmm, hF, Bool.not_true, hSr, g7] <;> rfl) ?_
        iterate 2 (refine Run.o1 (by simp only [go_sem, hEr, hst, hrd, hrr, htn, hcc, g1, g2, Bool.not_true, g3, g4, List.take_length, hmm, hF, Bool.not_true, hSr, g7] <;> rfl) ?_)
        refine Run.calw (by simp only [go_sem] <;> rfl) (c_law_awake) (by simp only [go_sem]) (by simp only [go_sem, hEr, hst, hrd, hrr, htn, hcc, g1, g2, Bool.not_true, g3, g4, List.take_length, hmm, hF, Bool.not_true, hSr, g7] <;> rfl) (by simp only [go_sem, hEr, hst, hrd, hrr, htn, hcc, g1, g2, Bool.not_true, g3, g4, List.take_length, hmm, hF, Bool.not_true, hSr, g7] <;> rfl) (by exact trivial) (fr0) (by simp only [go_sem, hEr, hst, hrd, hrr, htn, hcc, g1, g2, Bool.not_true, g3, g4, List.take_length, hmm, hF, Bool.not_true, hSr, g7] <;> rfl) ?_
        refine Run.o1 (by simp only [go_sem, hEr, hst, hrd, hrr, htn, hcc, g1, g2, Bool.not_true, g3, g4, List.take_length, hmm, hF, Bool.not_true, hSr, g7] <;> rfl) ?_
        refine Run.o ?_
        refine Run.nil ?_
        refine Exec.retS ?_
        exact Ends.fin [] (rs := [.tmp 6]) rfl (by simp only [go_sem, hEr, hst, hrd, hrr, htn, hcc, g1, g2, Bool.not_true, g3, g4, List.take_length, hmm, hF, Bool.not_true, hSr, g7] <;> rfl) (by simp only [go_sem, hEr, hst, hrd, hrr, htn, hcc, g1, g2, Bool.not_true, g3, g4, List.take_length, hmm, hF, Bool.not_true, hSr, g7] <;> first | rfl | ((repeat' (first | with_reducible_and_instances rfl | refine st_eq ?_ ?_ ?_ | refine ret_eq ?_ | refine tup_eq ?_ | refine tm_eq ?_ ?_ | refine arr_eq ?_ | refine cells_eq ?_ | refine val_eq ?_ | refine ls_eq ?_ ?_ | refine own_eq ?_ ?_ | refine sl_eq ?_ | refine b_eq ?_ | (refine i_eq ?_; omega))); done))
      have g7 : decide (d < 0) = false := decide_eq_false hdn
      have g8 : decide (d > 131072) = true := decide_eq_true (by omega)
      refine Exec.reg ?_
      refine Run.o ?_
      iterate 2 (refine Run.o1 (by simp only [go_sem, hEr, hst, hrd, hrr, htn, hcc, g1, g2, Bool.not_true, g3, g4, List.take_length, hmm, hF, Bool.not_true, hSr, g7, g8] <;> rfl) ?_)
      refine Run.y1 (by simp only [go_sem] <;> rfl) ?_
      refine Run.y1 (by simp only [go_sem, hEr, hst, hrd, hrr, htn, hcc, g1, g2, Bool.not_true, g3, g4, List.take_length, hmm, hF, Bool.not_true, hSr, g7, g8] <;> rfl) ?_
      iterate 2 (refine Run.o1 (by simp only [go_sem, hEr, hst, hrd, hrr, htn, hcc, g1, g2, Bool.not_true, g3, g4, List.take_length, hmm, hF, Bool.not_true, hSr, g7, g8] <;> rfl) ?_)
      refine Run.y1 (by simp only [go_sem] <;> rfl) ?_
      iterate 2 (refine Run.y1 (by simp only [go_sem, hEr, hst, hrd, hrr, htn, hcc, g1, g2, Bool.not_true, g3, g4, List.take_length, hmm, hF, Bool.not_true, hSr, g7, g8] <;> rfl) ?_)
      refine Run.y1 (by simp only [go_sem] <;> rfl) ?_
      iterate 2 (refine Run.y1 (by simp only [go_sem, hEr, hst, hrd, hrr, htn, hcc, g1, g2, Bool.not_true, g3, g4, List.take_length, hmm, hF, Bool.not_true, hSr, g7, g8] <;> rfl) ?_)
      iterate 2 (refine Run.o1 (by simp only [go_sem, hEr, hst, hrd, hrr, htn, hcc, g1, g2, Bool.not_true, g3, g4, List.take_length, hmm, hF, Bool.not_true, hSr, g7, g8] <;> rfl) ?_)
      refine Run.calw (by simp only [go_sem] <;> rfl) (c_law_awake) (by simp only [go_sem]) (by simp only [go_sem, hEr, hst, hrd, hrr, htn, hcc, g1, g2, Bool.not_true, g3, g4, List.take_length, hmm, hF, Bool.not_true, hSr, g7, g8] <;> rfl) (by simp only [go_sem, hEr, hst, hrd, hrr, htn, hcc, g1, g2, Bool.not_true, g3, g4, List.take_length, hmm, hF, Bool.not_true, hSr, g7, g8] <;> rfl) (by exact trivial) (fr0) (by simp only [go_sem, hEr, hst, hrd, hrr, htn, hcc, g1, g2, Bool.not_true, g3, g4, List.take_length, hmm, hF, Bool.not_true, hSr, g7, g8] <;> rfl) ?_
      refine Run.o1 (by simp only [go_sem, hEr, hst, hrd, hrr, htn, hcc, g1, g2, Bool.not_true, g3, g4, List.take_length, hmm, hF, Bool.not_true, hSr, g7, g8] <;> rfl) ?_
      refine Run.o ?_
      refine Run.nil ?_
      refine Exec.retS ?_
      exact Ends.fin [] (rs := [.tmp 6]) rfl (by simp only [go_sem, hEr, hst, hrd, hrr, htn, hcc, g1, g2, Bool.not_true, g3, g4, List.take_length, hmm, hF, Bool.not_true, hSr, g7, g8] <;> rfl) (by simp only [go_sem, hEr, hst, hrd, hrr, htn, hcc, g1, g2, Bool.not_true, g3, g4, List.take_length, hmm, hF, Bool.not_true, hSr, g7, g8] <;> first | rfl | ((repeat' (first | with_reducible_and_instances rfl | refine st_eq ?_ ?_ ?_ | refine ret_eq ?_ | refine tup_eq ?_ | refine tm_eq ?_ ?_ | refine arr_eq ?_ | refine cells_eq ?_ | refine val_eq ?_ | refine ls_eq ?_ ?_ | refine own_eq ?_ ?_ | refine sl_eq ?_ | refine b_eq ?_ | (refine i_eq ?_; omega))); done))
    have hdr : 0 ≤ d ∧ d ≤ 131072 := Classical.byContradiction fun hh => by rw [stat_rng hok hri hh] at hb162; simp at hb162
    have hSr := stat_ok hok hri hdr
    rw [hee] at hSr
    have hnb := fun hd => not_brk g hril (d := d) hd hrin
    refine Exec.skipS ?_
    refine Exec.reg ?_
    refine Run.o ?_
    refine Run.nil ?_
    refine Exec.assocS ?_
    refine Exec.reg ?_
    iterate 2 (refine Run.o ?_)
    iterate 2 (refine Run.o1 (by simp only [go_sem, hEr, hst, hrd, hrr, htn, hcc, g1, g2, Bool.not_true, g3, g4, List.take_length, hmm, hF, Bool.not_true, hSr] <;> rfl) ?_)
    refine Run.nil ?_
    refine Exec.cndS (by simp only [go_sem, hEr, hst, hrd, hrr, htn, hcc, g1, g2, Bool.not_true, g3, g4, List.take_length, hmm, hF, Bool.not_true, hSr] <;> rfl) (fun hb183 => ?_) (fun hb183 => ?_)
    · skip
      have hlt : d < (rowOf s ri).day := of_decide_eq_true hb183
      have hb := hnb hlt
      have hso : stOf (rowOf s ri) ee d = 0 := if_pos hlt
      refine Exec.reg ?_
      refine Run.o ?_
      refine Run.nil ?_
      refine Exec.reg ?_
      iterate 2 (refine Run.o ?_)
      iterate 2 (refine Run.o1 (by simp only [go_sem, hEr, hst, hrd, hrr, htn, hcc, g1, g2, Bool.not_true, g3, g4, List.take_length, hmm, hF, Bool.not_true, hSr, hb, hso, if_false] <;> rfl) ?_)
      refine Run.calw (by simp only [go_sem] <;> rfl) (c_law_awake) (by simp only [go_sem]) (by simp only [go_sem, hEr, hst, hrd, hrr, htn, hcc, g1, g2, Bool.not_true, g3, g4, List.take_length, hmm, hF, Bool.not_true, hSr, hb, hso, if_false] <;> rfl) (by simp only [go_sem, hEr, hst, hrd, hrr, htn, hcc, g1, g2, Bool.not_true, g3, g4, List.take_length, hmm, hF, Bool.not_true, hSr, hb, hso, if_false] <;> rfl) (by exact trivial) (fr0) (by simp only [go_sem, hEr, hst, hrd, hrr, htn, hcc, g1, g2, Bool.not_true, g3, g4, List.take_length, hmm, hF, Bool.not_true, hSr, hb, hso, if_false] <;> rfl) ?_
      refine Run.o1 (by simp only [go_sem, hEr, hst, hrd, hrr, htn, hcc, g1, g2, Bool.not_true, g3, g4, List.take_length, hmm, hF, Bool.not_true, hSr, hb, hso, if_false] <;> rfl) ?_
      refine Run.o ?_
      refine Run.nil ?_
      exact Ends.fin [] (rs := [.tmp 6]) rfl (by simp only [go_sem, hEr, hst, hrd, hrr, htn, hcc, g1, g2, Bool.not_true, g3, g4, List.take_length, hmm, hF, Bool.not_true, hSr, hb, hso, if_false] <;> rfl) (by simp only [go_sem, hEr, hst, hrd, hrr, htn, hcc, g1, g2, Bool.not_true, g3, g4, List.take_length, hmm, hF, Bool.not_true, hSr, hb, hso, if_false] <;> first | rfl | ((repeat' (first | with_reducible_and_instances rfl | refine st_eq ?_ ?_ ?_ | refine ret_eq ?_ | refine tup_eq ?_ | refine tm_eq ?_ ?_ | refine arr_eq ?_ | refine cells_eq ?_ | refine val_eq ?_ | refine ls_eq ?_ ?_ | refine own_eq ?_ ?_ | refine sl_eq ?_ | refine b_eq ?_ | (refine i_eq ?_; omega))); done))
    refine Exec.assocS ?_
    refine Exec.reg ?_
    refine Run.o1 (by simp only [go_sem, hEr, hst, hrd, hrr, htn, hcc, g1, g2, Bool.not_true, g3, g4, List.take_length, hmm, hF, Bool.not_true, hSr] <;> rfl) ?_
    iterate 2 (refine Run.o ?_)
    refine Run.c1 (c_meterworksref07_IsBroken s x d (by have := hsm.bs; omega)) (by simp only [go_sem, hEr, hst, hrd, hrr, htn, hcc, g1, g2, Bool.not_true, g3, g4, List.take_length, hmm, hF, Bool.not_true, hSr] <;> rfl) (by simp only [go_sem, hEr, hst, hrd, hrr, htn, hcc, g1, g2, Bool.not_true, g3, g4, List.take_length, hmm, hF, Bool.not_true, hSr] <;> rfl) ?_
    refine Run.nil ?_
    refine Exec.cndS (by simp only [go_sem, hEr, hst, hrd, hrr, htn, hcc, g1, g2, Bool.not_true, g3, g4, List.take_length, hmm, hF, Bool.not_true, hSr] <;> rfl) (fun hb187 => ?_) (fun hb187 => ?_)
    · skip
      have hb : isBrk s x d = true := by simpa using hb187
      refine Exec.reg ?_
      refine Run.o ?_
      refine Run.nil ?_
      refine Exec.reg ?_
      iterate 2 (refine Run.o ?_)
      iterate 2 (refine Run.o1 (by simp only [go_sem, hEr, hst, hrd, hrr, htn, hcc, g1, g2, Bool.not_true, g3, g4, List.take_length, hmm, hF, Bool.not_true, hSr, hb, if_true] <;> rfl) ?_)
      refine Run.calw (by simp only [go_sem] <;> rfl) (c_law_awake) (by simp only [go_sem]) (by simp only [go_sem, hEr, hst, hrd, hrr, htn, hcc, g1, g2, Bool.not_true, g3, g4, List.take_length, hmm, hF, Bool.not_true, hSr, hb, if_true] <;> rfl) (by simp only [go_sem, hEr, hst, hrd, hrr, htn, hcc, g1, g2, Bool.not_true, g3, g4, List.take_length, hmm, hF, Bool.not_true, hSr, hb, if_true] <;> rfl) (by exact trivial) (fr0) (by simp only [go_sem, hEr, hst, hrd, hrr, htn, hcc, g1, g2, Bool.not_true, g3, g4, List.take_length, hmm, hF, Bool.not_true, hSr, hb, if_true] <;> rfl) ?_
      refine Run.o1 (by simp only [go_sem, hEr, hst, hrd, hrr, htn, hcc, g1, g2, Bool.not_true, g3, g4, List.take_length, hmm, hF, Bool.not_true, hSr, hb, if_true] <;> rfl) ?_
      refine Run.o ?_
      refine Run.nil ?_
      exact Ends.fin [] (rs := [.tmp 6]) rfl (by simp only [go_sem, hEr, hst, hrd, hrr, htn, hcc, g1, g2, Bool.not_true, g3, g4, List.take_length, hmm, hF, Bool.not_true, hSr, hb, if_true] <;> rfl) (by simp only [go_sem, hEr, hst, hrd, hrr, htn, hcc, g1, g2, Bool.not_true, g3, g4, List.take_length, hmm, hF, Bool.not_true, hSr, hb, if_true] <;> first | rfl | ((repeat' (first | with_reducible_and_instances rfl | refine st_eq ?_ ?_ ?_ | refine ret_eq ?_ | refine tup_eq ?_ | refine tm_eq ?_ ?_ | refine arr_eq ?_ | refine cells_eq ?_ | refine val_eq ?_ | refine ls_eq ?_ ?_ | refine own_eq ?_ ?_ | refine sl_eq ?_ | refine b_eq ?_ | (refine i_eq ?_; omega))); done))
    have hnl : ¬ d < (rowOf s ri).day := of_decide_eq_false hb183
    have hb : isBrk s x d = false := by simpa using hb187
    refine Exec.assocS ?_
    refine Exec.reg ?_
    iterate 2 (refine Run.o ?_)
    refine Run.o1 (by simp only [go_sem, hEr, hst, hrd, hrr, htn, hcc, g1, g2, Bool.not_true, g3, g4, List.take_length, hmm, hF, Bool.not_true, hSr] <;> rfl) ?_
    refine Run.nil ?_
    refine Exec.cndS (by simp only [go_sem, hEr, hst, hrd, hrr, htn, hcc, g1, g2, Bool.not_true, g3, g4, List.take_length, hmm, hF, Bool.not_true, hSr] <;> rfl) (fun hb190 => ?_) (fun hb190 => ?_)
    · skip
      have hge : d ≥ ee := of_decide_eq_true hb190
      have hso : stOf (rowOf s ri) ee d = 2 := by unfold stOf; rw [if_neg hnl, if_neg (by omega)]
      refine Exec.reg ?_
      refine Run.o ?_
      refine Run.nil ?_
      refine Exec.reg ?_
      iterate 2 (refine Run.o ?_)
      iterate 2 (refine Run.o1 (by simp only [go_sem, hEr, hst, hrd, hrr, htn, hcc, g1, g2, Bool.not_true, g3, g4, List.take_length, hmm, hF, Bool.not_true, hSr, hb, hso, if_false] <;> rfl) ?_)
      refine Run.calw (by simp only [go_sem] <;> rfl) (c_law_awake) (by simp only [go_sem]) (by simp only [go_sem, hEr, hst, hrd, hrr, htn, hcc, g1, g2, Bool.not_true, g3, g4, List.take_length, hmm, hF, Bool.not_true, hSr, hb, hso, if_false] <;> rfl) (by simp only [go_sem, hEr, hst, hrd, hrr, htn, hcc, g1, g2, Bool.not_true, g3, g4, List.take_length, hmm, hF, Bool.not_true, hSr, hb, hso, if_false] <;> rfl) (by exact trivial) (fr0) (by simp only [go_sem, hEr, hst, hrd, hrr, htn, hcc, g1, g2, Bool.not_true, g3, g4, List.take_length, hmm, hF, Bool.not_true, hSr, hb, hso, if_false] <;> rfl) ?_
      refine Run.o1 (by simp only [go_sem, hEr, hst, hrd, hrr, htn, hcc, g1, g2, Bool.not_true, g3, g4, List.take_length, hmm, hF, Bool.not_true, hSr, hb, hso, if_false] <;> rfl) ?_
      refine Run.o ?_
      refine Run.nil ?_
      exact Ends.fin [] (rs := [.tmp 6]) rfl (by simp only [go_sem, hEr, hst, hrd, hrr, htn, hcc, g1, g2, Bool.not_true, g3, g4, List.take_length, hmm, hF, Bool.not_true, hSr, hb, hso, if_false] <;> rfl) (by simp only [go_sem, hEr, hst, hrd, hrr, htn, hcc, g1, g2, Bool.not_true, g3, g4, List.take_length, hmm, hF, Bool.not_true, hSr, hb, hso, if_false] <;> first | rfl | ((repeat' (first | with_reducible_and_instances rfl | refine st_eq ?_ ?_ ?_ | refine ret_eq ?_ | refine tup_eq ?_ | refine tm_eq ?_ ?_ | refine arr_eq ?_ | refine cells_eq ?_ | refine val_eq ?_ | refine ls_eq ?_ ?_ | refine own_eq ?_ ?_ | refine sl_eq ?_ | refine b_eq ?_ | (refine i_eq ?_; omega))); done))
    have hge : ¬ d ≥ ee := of_decide_eq_false hb190
    have hso : stOf (rowOf s ri) ee d = 1 := by unfold stOf; rw [if_neg hnl, if_pos (by omega)]
    refine Exec.skipS ?_
    refine Exec.reg ?_
    iterate 2 (refine Run.o ?_)
    iterate 2 (refine Run.o1 (by simp only [go_sem, hEr, hst, hrd, hrr, htn, hcc, g1, g2, Bool.not_true, g3, g4, List.take_length, hmm, hF, Bool.not_true, hSr, hb, hso, if_false] <;> rfl) ?_)
    refine Run.calw (by simp only [go_sem] <;> rfl) (c_law_awake) (by simp only [go_sem]) (by simp only [go_sem, hEr, hst, hrd, hrr, htn, hcc, g1, g2, Bool.not_true, g3, g4, List.take_length, hmm, hF, Bool.not_true, hSr, hb, hso, if_false] <;> rfl) (by simp only [go_sem, hEr, hst, hrd, hrr, htn, hcc, g1, g2, Bool.not_true, g3, g4, List.take_length, hmm, hF, Bool.not_true, hSr, hb, hso, if_false] <;> rfl) (by exact trivial) (fr0) (by simp only [go_sem, hEr, hst, hrd, hrr, htn, hcc, g1, g2, Bool.not_true, g3, g4, List.take_length, hmm, hF, Bool.not_true, hSr, hb, hso, if_false] <;> rfl) ?_
    refine Run.o1 (by simp only [go_sem, hEr, hst, hrd, hrr, htn, hcc, g1, g2, Bool.not_true, g3, g4, List.take_length, hmm, hF, Bool.not_true, hSr, hb, hso, if_false] <;> rfl) ?_
    refine Run.o ?_
    refine Run.nil ?_
    exact Ends.fin [] (rs := [.tmp 6]) rfl (by simp only [go_sem, hEr, hst, hrd, hrr, htn, hcc, g1, g2, Bool.not_true, g3, g4, List.take_length, hmm, hF, Bool.not_true, hSr, hb, hso, if_false] <;> rfl) (by simp only [go_sem, hEr, hst, hrd, hrr, htn, hcc, g1, g2, Bool.not_true, g3, g4, List.take_length, hmm, hF, Bool.not_true, hSr, hb, hso, if_false] <;> first | rfl | ((repeat' (first | with_reducible_and_instances rfl | refine st_eq ?_ ?_ ?_ | refine ret_eq ?_ | refine tup_eq ?_ | refine tm_eq ?_ ?_ | refine arr_eq ?_ | refine cells_eq ?_ | refine val_eq ?_ | refine ls_eq ?_ ?_ | refine own_eq ?_ ?_ | refine sl_eq ?_ | refine b_eq ?_ | (refine i_eq ?_; omega))); done))
  have hF2 : s.ps.any (faQ s (rowOf s ri) ee mm et.toNat) = false := by simpa using hF
  have hex : ee = (rowOf s ri).day + (clsOf s (rowOf s ri).cl).term + et * mm := hany.resolve_left hF
  have g6 : (ee != (rowOf s ri).day + (clsOf s (rowOf s ri).cl).term + et * mm) = false := by rw [hex, bne_self_eq_false]
  refine Exec.reg ?_
  iterate 2 (refine Run.o ?_)
  iterate 2 (refine Run.o1 (by simp only [go_sem, hEr, hst, hrd, hrr, htn, hcc, g1, g2, Bool.not_true, g3, g4, List.take_length, hmm, hF2, Bool.not_false, g6] <;> rfl) ?_)
  refine Run.y1 (by simp only [go_sem] <;> rfl) ?_
  iterate 2 (refine Run.y1 (by simp only [go_sem, hEr, hst, hrd, hrr, htn, hcc, g1, g2, Bool.not_true, g3, g4, List.take_length, hmm, hF2, Bool.not_false, g6] <;> rfl) ?_)
  iterate 2 (refine Run.y1 (by simp only [go_sem] <;> rfl) ?_)
  refine Run.y1 (by simp only [go_sem, hEr, hst, hrd, hrr, htn, hcc, g1, g2, Bool.not_true, g3, g4, List.take_length, hmm, hF2, Bool.not_false, g6] <;> rfl) ?_
  refine Run.y1 (by simp only [go_sem] <;> rfl) ?_
  refine Run.y1 (by simp only [go_sem, hEr, hst, hrd, hrr, htn, hcc, g1, g2, Bool.not_true, g3, g4, List.take_length, hmm, hF2, Bool.not_false, g6] <;> rfl) ?_
  refine Run.y1 (by simp only [go_sem, hEr, hst, hrd, hrr, htn, hcc, g1, g2, Bool.not_true, g3, g4, List.take_length, hmm, hF2, Bool.not_false, g6]; (try simp (disch := omega) only [IntWalk.i64_in, IntWalk.u64_in, if_neg, if_pos])<;> rfl) ?_
  iterate 2 (refine Run.y1 (by simp only [go_sem] <;> rfl) ?_)
  refine Run.y1 (by simp only [go_sem, hEr, hst, hrd, hrr, htn, hcc, g1, g2, Bool.not_true, g3, g4, List.take_length, hmm, hF2, Bool.not_false, g6] <;> rfl) ?_
  iterate 2 (refine Run.y1 (by simp only [go_sem, hEr, hst, hrd, hrr, htn, hcc, g1, g2, Bool.not_true, g3, g4, List.take_length, hmm, hF2, Bool.not_false, g6]; (try simp (disch := omega) only [IntWalk.i64_in, IntWalk.u64_in, if_neg, if_pos])<;> rfl) ?_)
  iterate 2 (refine Run.y1 (by simp only [go_sem, hEr, hst, hrd, hrr, htn, hcc, g1, g2, Bool.not_true, g3, g4, List.take_length, hmm, hF2, Bool.not_false, g6] <;> rfl) ?_)
  iterate 2 (refine Run.o1 (by simp only [go_sem, hEr, hst, hrd, hrr, htn, hcc, g1, g2, Bool.not_true, g3, g4, List.take_length, hmm, hF2, Bool.not_false, g6] <;> rfl) ?_)
  iterate 2 (refine Run.y1 (by simp only [go_sem] <;> rfl) ?_)
  iterate 2 (refine Run.y1 (by simp only [go_sem, hEr, hst, hrd, hrr, htn, hcc, g1, g2, Bool.not_true, g3, g4, List.take_length, hmm, hF2, Bool.not_false, g6] <;> rfl) ?_)
  refine Run.o1 (by simp only [go_sem, hEr, hst, hrd, hrr, htn, hcc, g1, g2, Bool.not_true, g3, g4, List.take_length, hmm, hF2, Bool.not_false, g6] <;> rfl) ?_
  refine Run.nil ?_
  refine Exec.cndS (by simp only [go_sem, hEr, hst, hrd, hrr, htn, hcc, g1, g2, Bool.not_true, g3, g4, List.take_length, hmm, hF2, Bool.not_false, g6] <;> rfl) (fun hb160 => ?_) (fun hb160 => ?_)
  · exact absurd hb160 (by simp)
  refine Exec.skipS ?_
  refine Exec.assocS ?_
  refine Exec.reg ?_
  refine Run.o ?_
  refine Run.o1 (by simp only [go_sem, hEr, hst, hrd, hrr, htn, hcc, g1, g2, Bool.not_true, g3, g4, List.take_length, hmm, hF2, Bool.not_false, g6] <;> rfl) ?_
  refine Run.nil ?_
  refine Exec.cndS (by simp only [go_sem, hEr, hst, hrd, hrr, htn, hcc, g1, g2, Bool.not_true, g3, g4, List.take_length, hmm, hF2, Bool.not_false, g6] <;> rfl) (fun hb162 => ?_) (fun hb162 => ?_)
  · skip
    have hdr : ¬ (0 ≤ d ∧ d ≤ 131072) := fun hh => by rw [stat_ok hok hri hh] at hb162; simp at hb162
    have hSr := stat_rng hok hri hdr
    refine Exec.assocS ?_
    by_cases hdn : d < 0
    · skip
      have g7 : decide (d < 0) = true := decide_eq_true hdn
      refine Exec.reg ?_
      refine Run.o ?_
      iterate 2 (refine Run.o1 (by simp only [go_sem, hEr, hst, hrd, hrr, htn, hcc, g1, g2, Bool.not_true, g3, g4, List.take_length, hmm, hF2, Bool.not_false, g6, hSr, g7] <;> rfl) ?_)
      refine Run.y1 (by simp only [go_sem] <;> rfl) ?_
      refine Run.y1 (by simp only [go_sem, hEr, hst, hrd, hrr, htn, hcc, g1, g2, Bool.not_true, g3, g4, List.take_length, hmm, hF2, Bool.not_false, g6, hSr, g7] <;> rfl) ?_
      iterate 2 (refine Run.o1 (by simp only [go_sem, hEr, hst, hrd, hrr, htn, hcc, g1, g2, Bool.not_true, g3, g4, List.take_length, hmm, hF2, Bool.not_false, g6, hSr, g7] <;> rfl) ?_)
      refine Run.y1 (by simp only [go_sem] <;> rfl) ?_
      iterate 2 (refine Run.y1 (by simp only [go_sem, hEr, hst, hrd, hrr, htn, hcc, g1, g2, Bool.not_true, g3, g4, List.take_length, hmm, hF2, Bool.not_false, g6, hSr, g7] <;> rfl) ?_)
      iterate 2 (refine Run.s ?_)
      refine Run.y1 (by simp only [go_sem, hEr, hst, hrd, hrr, htn, hcc, g1, g2, Bool.not_true, g3, g4, List.take_length, hmm, hF2, Bool.not_false, g6, hSr, g7] <;> rfl) ?_
      iterate 2 (refine Run.o1 (by simp only [go_sem, hEr, hst, hrd, hrr, htn, hcc, g1, g2, Bool.not_true, g3, g4, List.take_length, hmm, hF2, Bool.not_false, g6, hSr, g7] <;> rfl) ?_)
      refine Run.calw (by simp only [go_sem] <;> rfl) (c_law_awake) (by simp only [go_sem]) (by simp only [go_sem, hEr, hst, hrd, hrr, htn, hcc, g1, g2, Bool.not_true, g3, g4, List.take_length, hmm, hF2, Bool.not_false, g6, hSr, g7] <;> rfl) (by simp only [go_sem, hEr, hst, hrd, hrr, htn, hcc, g1, g2, Bool.not_true, g3, g4, List.take_length, hmm, hF2, Bool.not_false, g6, hSr, g7] <;> rfl) (by exact trivial) (fr0) (by simp only [go_sem, hEr, hst, hrd, hrr, htn, hcc, g1, g2, Bool.not_true, g3, g4, List.take_length, hmm, hF2, Bool.not_false, g6, hSr, g7] <;> rfl) ?_
      refine Run.o1 (by simp only [go_sem, hEr, hst, hrd, hrr, htn, hcc, g1, g2, Bool.not_true, g3, g4, List.take_length, hmm, hF2, Bool.not_false, g6, hSr, g7] <;> rfl) ?_
      refine Run.o ?_
      refine Run.nil ?_
      refine Exec.retS ?_
      exact Ends.fin [] (rs := [.tmp 6]) rfl (by simp only [go_sem, hEr, hst, hrd, hrr, htn, hcc, g1, g2, Bool.not_true, g3, g4, List.take_length, hmm, hF2, Bool.not_false, g6, hSr, g7] <;> rfl) (by simp only [go_sem, hEr, hst, hrd, hrr, htn, hcc, g1, g2, Bool.not_true, g3, g4, List.take_length, hmm, hF2, Bool.not_false, g6, hSr, g7] <;> first | rfl | ((repeat' (first | with_reducible_and_instances rfl | refine st_eq ?_ ?_ ?_ | refine ret_eq ?_ | refine tup_eq ?_ | refine tm_eq ?_ ?_ | refine arr_eq ?_ | refine cells_eq ?_ | refine val_eq ?_ | refine ls_eq ?_ ?_ | refine own_eq ?_ ?_ | refine sl_eq ?_ | refine b_eq ?_ | (refine i_eq ?_; omega))); done))
    have g7 : decide (d < 0) = false := decide_eq_false hdn
    have g8 : decide (d > 131072) = true := decide_eq_true (by omega)
    refine Exec.reg ?_
    refine Run.o ?_
    iterate 2 (refine Run.o1 (by simp only [go_sem, hEr, hst, hrd, hrr, htn, hcc, g1, g2, Bool.not_true, g3, g4, List.take_length, hmm, hF2, Bool.not_false, g6, hSr, g7, g8] <;> rfl) ?_)
    refine Run.y1 (by simp only [go_sem] <;> rfl) ?_
    refine Run.y1 (by simp only [go_sem, hEr, hst, hrd, hrr, htn, hcc, g1, g2, Bool.not_true, g3, g4, List.take_length, hmm, hF2, Bool.not_false, g6, hSr, g7, g8] <;> rfl) ?_
    iterate 2 (refine Run.o1 (by simp only [go_sem, hEr, hst, hrd, hrr, htn, hcc, g1, g2, Bool.not_true, g3, g4, List.take_length, hmm, hF2, Bool.not_false, g6, hSr, g7, g8] <;> rfl) ?_)
    refine Run.y1 (by simp only [go_sem] <;> rfl) ?_
    iterate 2 (refine Run.y1 (by simp only [go_sem, hEr, hst, hrd, hrr, htn, hcc, g1, g2, Bool.not_true, g3, g4, List.take_length, hmm, hF2, Bool.not_false, g6, hSr, g7, g8] <;> rfl) ?_)
    refine Run.y1 (by simp only [go_sem] <;> rfl) ?_
    iterate 2 (refine Run.y1 (by simp only [go_sem, hEr, hst, hrd, hrr, htn, hcc, g1, g2, Bool.not_true, g3, g4, List.take_length, hmm, hF2, Bool.not_false, g6, hSr, g7, g8] <;> rfl) ?_)
    iterate 2 (refine Run.o1 (by simp only [go_sem, hEr, hst, hrd, hrr, htn, hcc, g1, g2, Bool.not_true, g3, g4, List.take_length, hmm, hF2, Bool.not_false, g6, hSr, g7, g8] <;> rfl) ?_)
    refine Run.calw (by simp only [go_sem] <;> rfl) (c_law_awake) (by simp only [go_sem]) (by simp only [go_sem, hEr, hst, hrd, hrr, htn, hcc, g1, g2, Bool.not_true, g3, g4, List.take_length, hmm, hF2, Bool.not_false, g6, hSr, g7, g8] <;> rfl) (by simp only [go_sem, hEr, hst, hrd, hrr, htn, hcc, g1, g2, Bool.not_true, g3, g4, List.take_length, hmm, hF2, Bool.not_false, g6, hSr, g7, g8] <;> rfl) (by exact trivial) (fr0) (by simp only [go_sem, hEr, hst, hrd, hrr, htn, hcc, g1, g2, Bool.not_true, g3, g4, List.take_length, hmm, hF2, Bool.not_false, g6, hSr, g7, g8] <;> rfl) ?_
    refine Run.o1 (by simp only [go_sem, hEr, hst, hrd, hrr, htn, hcc, g1, g2, Bool.not_true, g3, g4, List.take_length, hmm, hF2, Bool.not_false, g6, hSr, g7, g8] <;> rfl) ?_
    refine Run.o ?_
    refine Run.nil ?_
    refine Exec.retS ?_
    exact Ends.fin [] (rs := [.tmp 6]) rfl (by simp only [go_sem, hEr, hst, hrd, hrr, htn, hcc, g1, g2, Bool.not_true, g3, g4, List.take_length, hmm, hF2, Bool.not_false, g6, hSr, g7, g8] <;> rfl) (by simp only [go_sem, hEr, hst, hrd, hrr, htn, hcc, g1, g2, Bool.not_true, g3, g4, List.take_length, hmm, hF2, Bool.not_false, g6, hSr, g7, g8] <;> first | rfl | ((repeat' (first | with_reducible_and_instances rfl | refine st_eq ?_ ?_ ?_ | refine ret_eq ?_ | refine tup_eq ?_ | refine tm_eq ?_ ?_ | refine arr_eq ?_ | refine cells_eq ?_ | refine val_eq ?_ | refine ls_eq ?_ ?_ | refine own_eq ?_ ?_ | refine sl_eq ?_ | refine b_eq ?_ | (refine i_eq ?_; omega))); done))
  have hdr : 0 ≤ d ∧ d ≤ 131072 := Classical.byContradiction fun hh => by rw [stat_rng hok hri hh] at hb162; simp at hb162
  have hSr := stat_ok hok hri hdr
  rw [hee] at hSr
  have hnb := fun hd => not_brk g hril (d := d) hd hrin
  refine Exec.skipS ?_
  refine Exec.reg ?_
  refine Run.o ?_
  refine Run.nil ?_
  refine Exec.assocS ?_
  refine Exec.reg ?_
  iterate 2 (refine Run.o ?_)
  iterate 2 (refine Run.o1 (by simp only [go_sem, hEr, hst, hrd, hrr, htn, hcc, g1, g2, Bool.not_true, g3, g4, List.take_length, hmm, hF2, Bool.not_false, g6, hSr] <;> rfl) ?_)
  refine Run.nil ?_
  refine Exec.cndS (by simp only [go_sem, hEr, hst, hrd, hrr, htn, hcc, g1, g2, Bool.not_true, g3, g4, List.take_length, hmm, hF2, Bool.not_false, g6, hSr] <;> rfl) (fun hb183 => ?_) (fun hb183 => ?_)
  · skip
    have hlt : d < (rowOf s ri).day := of_decide_eq_true hb183
    have hb := hnb hlt
    have hso : stOf (rowOf s ri) ee d = 0 := if_pos hlt
    refine Exec.reg ?_
    refine Run.o ?_
    refine Run.nil ?_
    refine Exec.reg ?_
    iterate 2 (refine Run.o ?_)
    iterate 2 (refine Run.o1 (by simp only [go_sem, hEr, hst, hrd, hrr, htn, hcc, g1, g2, Bool.not_true, g3, g4, List.take_length, hmm, hF2, Bool.not_false, g6, hSr, hb, hso, if_false] <;> rfl) ?_)
    refine Run.calw (by simp only [go_sem] <;> rfl) (c_law_awake) (by simp only [go_sem]) (by simp only [go_sem, hEr, hst, hrd, hrr, htn, hcc, g1, g2, Bool.not_true, g3, g4, List.take_length, hmm, hF2, Bool.not_false, g6, hSr, hb, hso, if_false] <;> rfl) (by simp only [go_sem, hEr, hst, hrd, hrr, htn, hcc, g1, g2, Bool.not_true, g3, g4, List.take_length, hmm, hF2, Bool.not_false, g6, hSr, hb, hso, if_false] <;> rfl) (by exact trivial) (fr0) (by simp only [go_sem, hEr, hst, hrd, hrr, htn, hcc, g1, g2, Bool.not_true, g3, g4, List.take_length, hmm, hF2, Bool.not_false, g6, hSr, hb, hso, if_false] <;> rfl) ?_
    refine Run.o1 (by simp only [go_sem, hEr, hst, hrd, hrr, htn, hcc, g1, g2, Bool.not_true, g3, g4, List.take_length, hmm, hF2, Bool.not_false, g6, hSr, hb, hso, if_false] <;> rfl) ?_
    refine Run.o ?_
    refine Run.nil ?_
    exact Ends.fin [] (rs := [.tmp 6]) rfl (by simp only [go_sem, hEr, hst, hrd, hrr, htn, hcc, g1, g2, Bool.not_true, g3, g4, List.take_length, hmm, hF2, Bool.not_false, g6, hSr, hb, hso, if_false] <;> rfl) (by simp only [go_sem, hEr, hst, hrd, hrr, htn, hcc, g1, g2, Bool.not_true, g3, g4, List.take_length, hmm, hF2, Bool.not_false, g6, hSr, hb, hso, if_false] <;> first | rfl | ((repeat' (first | with_reducible_and_instances rfl | refine st_eq ?_ ?_ ?_ | refine ret_eq ?_ | refine tup_eq ?_ | refine tm_eq ?_ ?_ | refine arr_eq ?_ | refine cells_eq ?_ | refine val_eq ?_ | refine ls_eq ?_ ?_ | refine own_eq ?_ ?_ | refine sl_eq ?_ | refine b_eq ?_ | (refine i_eq ?_; omega))); done))
  refine Exec.assocS ?_
  refine Exec.reg ?_
  refine Run.o1 (by simp only [go_sem, hEr, hst, hrd, hrr, htn, hcc, g1, g2, Bool.not_true, g3, g4, List.take_length, hmm, hF2, Bool.not_false, g6, hSr] <;> rfl) ?_
  iterate 2 (refine Run.o ?_)
  refine Run.c1 (c_meterworksref07_IsBroken s x d (by have := hsm.bs; omega)) (by simp only [go_sem, hEr, hst, hrd, hrr, htn, hcc, g1, g2, Bool.not_true, g3, g4, List.take_length, hmm, hF2, Bool.not_false, g6, hSr] <;> rfl) (by simp only [go_sem, hEr, hst, hrd, hrr, htn, hcc, g1, g2, Bool.not_true, g3, g4, List.take_length, hmm, hF2, Bool.not_false, g6, hSr] <;> rfl) ?_
  refine Run.nil ?_
  refine Exec.cndS (by simp only [go_sem, hEr, hst, hrd, hrr, htn, hcc, g1, g2, Bool.not_true, g3, g4, List.take_length, hmm, hF2, Bool.not_false, g6, hSr] <;> rfl) (fun hb187 => ?_) (fun hb187 => ?_)
  · skip
    have hb : isBrk s x d = true := by simpa using hb187
    refine Exec.reg ?_
    refine Run.o ?_
    refine Run.nil ?_
    refine Exec.reg ?_
    iterate 2 (refine Run.o ?_)
    iterate 2 (refine Run.o1 (by simp only [go_sem, hEr, hst, hrd, hrr, htn, hcc, g1, g2, Bool.not_true, g3, g4, List.take_length, hmm, hF2, Bool.not_false, g6, hSr, hb, if_true] <;> rfl) ?_)
    refine Run.calw (by simp only [go_sem] <;> rfl) (c_law_awake) (by simp only [go_sem]) (by simp only [go_sem, hEr, hst, hrd, hrr, htn, hcc, g1, g2, Bool.not_true, g3, g4, List.take_length, hmm, hF2, Bool.not_false, g6, hSr, hb, if_true] <;> rfl) (by simp only [go_sem, hEr, hst, hrd, hrr, htn, hcc, g1, g2, Bool.not_true, g3, g4, List.take_length, hmm, hF2, Bool.not_false, g6, hSr, hb, if_true] <;> rfl) (by exact trivial) (fr0) (by simp only [go_sem, hEr, hst, hrd, hrr, htn, hcc, g1, g2, Bool.not_true, g3, g4, List.take_length, hmm, hF2, Bool.not_false, g6, hSr, hb, if_true] <;> rfl) ?_
    refine Run.o1 (by simp only [go_sem, hEr, hst, hrd, hrr, htn, hcc, g1, g2, Bool.not_true, g3, g4, List.take_length, hmm, hF2, Bool.not_false, g6, hSr, hb, if_true] <;> rfl) ?_
    refine Run.o ?_
    refine Run.nil ?_
    exact Ends.fin [] (rs := [.tmp 6]) rfl (by simp only [go_sem, hEr, hst, hrd, hrr, htn, hcc, g1, g2, Bool.not_true, g3, g4, List.take_length, hmm, hF2, Bool.not_false, g6, hSr, hb, if_true] <;> rfl) (by simp only [go_sem, hEr, hst, hrd, hrr, htn, hcc, g1, g2, Bool.not_true, g3, g4, List.take_length, hmm, hF2, Bool.not_false, g6, hSr, hb, if_true] <;> first | rfl | ((repeat' (first | with_reducible_and_instances rfl | refine st_eq ?_ ?_ ?_ | refine ret_eq ?_ | refine tup_eq ?_ | refine tm_eq ?_ ?_ | refine arr_eq ?_ | refine cells_eq ?_ | refine val_eq ?_ | refine ls_eq ?_ ?_ | refine own_eq ?_ ?_ | refine sl_eq ?_ | refine b_eq ?_ | (refine i_eq ?_; omega))); done))
  have hnl : ¬ d < (rowOf s ri).day := of_decide_eq_false hb183
  have hb : isBrk s x d = false := by simpa using hb187
  refine Exec.assocS ?_
  refine Exec.reg ?_
  iterate 2 (refine Run.o ?_)
  refine Run.o1 (by simp only [go_sem, hEr, hst, hrd, hrr, htn, hcc, g1, g2, Bool.not_true, g3, g4, List.take_length, hmm, hF2, Bool.not_false, g6, hSr] <;> rfl) ?_
  refine Run.nil ?_
  refine Exec.cndS (by simp only [go_sem, hEr, hst, hrd, hrr, htn, hcc, g1, g2, Bool.not_true, g3, g4, List.take_length, hmm, hF2, Bool.not_false, g6, hSr] <;> rfl) (fun hb190 => ?_) (fun hb190 => ?_)
  · skip
    have hge : d ≥ ee := of_decide_eq_true hb190
    have hso : stOf (rowOf s ri) ee d = 2 := by unfold stOf; rw [if_neg hnl, if_neg (by omega)]
    refine Exec.reg ?_
    refine Run.o ?_
    refine Run.nil ?_
    refine Exec.reg ?_
    iterate 2 (refine Run.o ?_)
    iterate 2 (refine Run.o1 (by simp only [go_sem, hEr, hst, hrd, hrr, htn, hcc, g1, g2, Bool.not_true, g3, g4, List.take_length, hmm, hF2, Bool.not_false, g6, hSr, hb, hso, if_false] <;> rfl) ?_)
    refine Run.calw (by simp only [go_sem] <;> rfl) (c_law_awake) (by simp only [go_sem]) (by simp only [go_sem, hEr, hst, hrd, hrr, htn, hcc, g1, g2, Bool.not_true, g3, g4, List.take_length, hmm, hF2, Bool.not_false, g6, hSr, hb, hso, if_false] <;> rfl) (by simp only [go_sem, hEr, hst, hrd, hrr, htn, hcc, g1, g2, Bool.not_true, g3, g4, List.take_length, hmm, hF2, Bool.not_false, g6, hSr, hb, hso, if_false] <;> rfl) (by exact trivial) (fr0) (by simp only [go_sem, hEr, hst, hrd, hrr, htn, hcc, g1, g2, Bool.not_true, g3, g4, List.take_length, hmm, hF2, Bool.not_false, g6, hSr, hb, hso, if_false] <;> rfl) ?_
    refine Run.o1 (by simp only [go_sem, hEr, hst, hrd, hrr, htn, hcc, g1, g2, Bool.not_true, g3, g4, List.take_length, hmm, hF2, Bool.not_false, g6, hSr, hb, hso, if_false] <;> rfl) ?_
    refine Run.o ?_
    refine Run.nil ?_
    exact Ends.fin [] (rs := [.tmp 6]) rfl (by simp only [go_sem, hEr, hst, hrd, hrr, htn, hcc, g1, g2, Bool.not_true, g3, g4, List.take_length, hmm, hF2, Bool.not_false, g6, hSr, hb, hso, if_false] <;> rfl) (by simp only [go_sem, hEr, hst, hrd, hrr, htn, hcc, g1, g2, Bool.not_true, g3, g4, List.take_length, hmm, hF2, Bool.not_false, g6, hSr, hb, hso, if_false] <;> first | rfl | ((repeat' (first | with_reducible_and_instances rfl | refine st_eq ?_ ?_ ?_ | refine ret_eq ?_ | refine tup_eq ?_ | refine tm_eq ?_ ?_ | refine arr_eq ?_ | refine cells_eq ?_ | refine val_eq ?_ | refine ls_eq ?_ ?_ | refine own_eq ?_ ?_ | refine sl_eq ?_ | refine b_eq ?_ | (refine i_eq ?_; omega))); done))
  have hge : ¬ d ≥ ee := of_decide_eq_false hb190
  have hso : stOf (rowOf s ri) ee d = 1 := by unfold stOf; rw [if_neg hnl, if_pos (by omega)]
  refine Exec.skipS ?_
  refine Exec.reg ?_
  iterate 2 (refine Run.o ?_)
  iterate 2 (refine Run.o1 (by simp only [go_sem, hEr, hst, hrd, hrr, htn, hcc, g1, g2, Bool.not_true, g3, g4, List.take_length, hmm, hF2, Bool.not_false, g6, hSr, hb, hso, if_false] <;> rfl) ?_)
  refine Run.calw (by simp only [go_sem] <;> rfl) (c_law_awake) (by simp only [go_sem]) (by simp only [go_sem, hEr, hst, hrd, hrr, htn, hcc, g1, g2, Bool.not_true, g3, g4, List.take_length, hmm, hF2, Bool.not_false, g6, hSr, hb, hso, if_false] <;> rfl) (by simp only [go_sem, hEr, hst, hrd, hrr, htn, hcc, g1, g2, Bool.not_true, g3, g4, List.take_length, hmm, hF2, Bool.not_false, g6, hSr, hb, hso, if_false] <;> rfl) (by exact trivial) (fr0) (by simp only [go_sem, hEr, hst, hrd, hrr, htn, hcc, g1, g2, Bool.not_true, g3, g4, List.take_length, hmm, hF2, Bool.not_false, g6, hSr, hb, hso, if_false] <;> rfl) ?_
  refine Run.o1 (by simp only [go_sem, hEr, hst, hrd, hrr, htn, hcc, g1, g2, Bool.not_true, g3, g4, List.take_length, hmm, hF2, Bool.not_false, g6, hSr, hb, hso, if_false] <;> rfl) ?_
  refine Run.o ?_
  refine Run.nil ?_
  exact Ends.fin [] (rs := [.tmp 6]) rfl (by simp only [go_sem, hEr, hst, hrd, hrr, htn, hcc, g1, g2, Bool.not_true, g3, g4, List.take_length, hmm, hF2, Bool.not_false, g6, hSr, hb, hso, if_false] <;> rfl) (by simp only [go_sem, hEr, hst, hrd, hrr, htn, hcc, g1, g2, Bool.not_true, g3, g4, List.take_length, hmm, hF2, Bool.not_false, g6, hSr, hb, hso, if_false] <;> first | rfl | ((repeat' (first | with_reducible_and_instances rfl | refine st_eq ?_ ?_ ?_ | refine ret_eq ?_ | refine tup_eq ?_ | refine tm_eq ?_ ?_ | refine arr_eq ?_ | refine cells_eq ?_ | refine val_eq ?_ | refine ls_eq ?_ ?_ | refine own_eq ?_ ?_ | refine sl_eq ?_ | refine b_eq ?_ | (refine i_eq ?_; omega))); done))

end Go.Mw
namespace Go.Proofs.Ytkekecfocnidpaa
open Go.Mw Go.ChangeShapes Go.WideShapes Go.ChangeAt Go.RowKit

theorem own : ownKnob Try.prog.godebug = none := by kernel_rfl
theorem laidOut : laidOutB Try.prog = true := by kernel_rfl
set_option maxRecDepth 100000 in
theorem lifted (os : Os) (started : os.Started) (H : Type) (enc : TypeId × Value → H) :
    ReturnsInHanded {} Try.checked os 5 .any (Rows.termStandsSpec.pre6 enc Try.prog Try.f5 Rows.termStandsRow.domain false) (Rows.termStandsSpec.post enc Try.prog Try.f5 false true false false) := by
  refine returnsInHanded_of_change (C := Try.checked) own started (by kernel_rfl) Try.func5
    (ChangeSpec.witness6 (enc := enc) (C := Try.checked) false ⟨#[], #[.agg #[.slice none 0 0, .slice none 0 0, .slice none 0 0, .slice none 0 0], .int .i64 0, .int .i64 0], []⟩ 8 (by kernel_rfl) (by kernel_rfl) (by kernel_rfl) (by kernel_rfl)) ?_
  intro W base args ds gs before hval0 hW hcnd _
  have hval : ∀ (j : Nat) t v, Try.f5.params[j]? = some t → args[j]? = some v → Value.okWide Try.prog W .any base t v := hval0
  have hW' := hW
  obtain ⟨p, q, hA0, hV, rfl, hfz, hnd⟩ := hW
  have hA : DataW.TrodAll enc Try.prog W 0 (fun _ => true) true Try.f5.params.toList args.toList ds p := hA0
  rw [Try.params5] at hA hval
  obtain ⟨v0, v1, v2, d0, d1, d2, p0, p1, p2, rfl, rfl, rfl, h0, h1, h2⟩ := trodAll_three hA
  obtain ⟨rfl, rfl⟩ := trodVars_none hV
  obtain ⟨x0, hx0⟩ := stk_read (hval 0 27 v0 rfl rfl) h0
  obtain ⟨x1, hb1, hx1⟩ := int_read (k := .i64) (P := Try.prog) (by kernel_rfl) (hval 1 3 v1 rfl rfl) h1
  obtain ⟨x2, hb2, hx2⟩ := int_read (k := .i64) (P := Try.prog) (by kernel_rfl) (hval 2 3 v2 rfl rfl) h2
  refine (row_con (c_law_TermStands x0 x1 x2) W [v0, v1, v2] ⟨hx0, hx1, hx2, trivial⟩).mono fun e W' ⟨he, hb⟩ => ?_
  exact ⟨_, he, post_below (tb := 4) hW' hb rfl rfl rfl (by kernel_rfl) laidOut (by decide +kernel)⟩
theorem holds : Rows.TermStandsSaid :=
  OpenClaim.holds_of_wide 5 Try.f5 rfl rfl rfl rfl rfl rfl rfl ⟨rfl, rfl, rfl, rfl, rfl⟩ rfl rfl rfl rfl rfl (by kernel_rfl) Try.func5 (by kernel_rfl)
    (of_decide_eq_true (by kernel_rfl)) (by unfold Func.isWrapper; first | (rw [if_pos (by decide +kernel)]; kernel_rfl) | (rw [if_neg (by decide +kernel)]; exact ⟨rfl, rfl⟩))
    (fun os started H enc _ => lifted os started H enc)
end Go.Proofs.Ytkekecfocnidpaa
#print axioms Go.Proofs.Ytkekecfocnidpaa.holds

/- Contracts of the functions that the term reaches: seals are counted. -/
import Derived.Test.YtkekecfocnidpaaB9
import Derived.Test.YtkekecfocnidpaaB4
import Derived.Test.YtkekecfocnidpaaB3
set_option linter.unusedSimpArgs false
set_option linter.unusedVariables false
set_option linter.unusedSectionVars false
set_option linter.deprecated false
namespace Go.Mw
open Go.Proofs
open Go.Te
theorem flat_bk (bs : List Br) : (bkM bs).flat = true := by
  show (bs.map encBk).all _ = true
  rw [List.all_eq_true]
  intro p hp
  obtain ⟨b, _, rfl⟩ := List.mem_map.1 hp
  rfl
theorem addAt_len (l : List Int) (i v : Int) : (addAt l i v).length = l.length := by unfold addAt; simp
theorem cntTo_len (s : Stk) (l : List (Int × Int)) (d : Int) : ∀ k, (cntTo s l d k).length = 4
  | 0 => rfl
  | k + 1 => by rw [cntTo, addAt_len, addAt_len, cntTo_len s l d k]
/-- A place of the counts. -/
def cq (s : Stk) (l : List (Int × Int)) (d : Int) (k j : Nat) : Int := (cntTo s l d k).getD j 0
theorem cq_zero (s : Stk) (l : List (Int × Int)) (d : Int) (j : Nat) (h : j < 4) : cq s l d 0 j = 0 := by
  unfold cq cntTo
  match j with
  | 0 => rfl
  | 1 => rfl
  | 2 => rfl
  | 3 => rfl
theorem len4 {l : List Int} (h : l.length = 4) : ∃ a b c e, l = [a, b, c, e] := by
  match l, h with
  | [a, b, c, e], _ => exact ⟨a, b, c, e, rfl⟩
theorem st_three (r : Sl) (e d : Int) : stOf r e d = 0 ∨ stOf r e d = 1 ∨ stOf r e d = 2 := by
  unfold stOf
  split
  · exact .inl rfl
  · split
    · exact .inr (.inl rfl)
    · exact .inr (.inr rfl)
def rowV4 (s : Stk) (d : Int) (k : Nat) : Int := (rowOf s k).to - (rowOf s k).fr + 1 - cntBk s.bs (rowOf s k) d
theorem cq_succ (s : Stk) (l : List (Int × Int)) (d : Int) (k : Nat) : 
    cq s l d (k + 1) 0 = cq s l d k 0 + (if stOf (rowOf s k) (endAt l k).1 d = 0 then rowV4 s d k else 0) ∧
    cq s l d (k + 1) 1 = cq s l d k 1 + (if stOf (rowOf s k) (endAt l k).1 d = 1 then rowV4 s d k else 0) ∧
    cq s l d (k + 1) 2 = cq s l d k 2 + (if stOf (rowOf s k) (endAt l k).1 d = 2 then rowV4 s d k else 0) ∧
    cq s l d (k + 1) 3 = cq s l d k 3 + cntBk s.bs (rowOf s k) d := by
  have e : brkOf s (rowOf s k) d = cntBk s.bs (rowOf s k) d := rfl
  unfold cq rowV4
  rw [cntTo, e]
  obtain ⟨a, b, c, f, hl⟩ := len4 (cntTo_len s l d k)
  rw [hl]
  rcases st_three (rowOf s k) (endAt l k).1 d with h | h | h <;> rw [h] <;> simp [addAt]
theorem cnt_eq (s : Stk) (l : List (Int × Int)) (d : Int) (k : Nat) : cntTo s l d k = [cq s l d k 0, cq s l d k 1, cq s l d k 2, cq s l d k 3] := by
  unfold cq
  obtain ⟨a, b, c, f, hl⟩ := len4 (cntTo_len s l d k)
  rw [hl]; rfl
theorem cq_bnd {s : Stk} (v : Val s) (l : List (Int × Int)) (d : Int) : ∀ k, k ≤ s.rs.length → ∀ j, j < 4 → -(2000000 * (k : Int)) ≤ cq s l d k j ∧ cq s l d k j ≤ 2000000 * k
  | 0, _, j, hj => by rw [cq_zero s l d j hj]; omega
  | k + 1, hk, j, hj => by
    have ih := cq_bnd v l d k (by omega) j hj
    obtain ⟨h0, h1, h2, h3⟩ := cq_succ s l d k
    have hr := v.row _ (rowOf_mem (s := s) (i := k) (by omega))
    have hb : cntBk s.bs (rowOf s k) d ≤ s.bs.length := List.countP_le_length
    have hb2 := v.nbs
    have hV : rowV4 s d k = (rowOf s k).to - (rowOf s k).fr + 1 - cntBk s.bs (rowOf s k) d := rfl
    match j, hj with
    | 0, _ => rw [h0]; split <;> omega
    | 1, _ => rw [h1]; split <;> omega
    | 2, _ => rw [h2]; split <;> omega
    | 3, _ => rw [h3]; omega
abbrev cells4 (s : Stk) (d : Int) (k : Nat) : AO := .cells [.d (.i (cq s (termsL s) d k 0)), .d (.i (cq s (termsL s) d k 1)), .d (.i (cq s (termsL s) d k 2)), .d (.i (cq s (termsL s) d k 3))]
def countV (s : Stk) (d : Int) : AV := if (termsR s).2.2 = 0 then (if inB d 0 131072 = false then .tup [(false, [.d (.raw (.slice none 0 0))]), (false, [.d (.i 2)])] else .tup [(false, [.csl 9 0 4]), (false, [.d (.i 0)])]) else .tup [(false, [.d (.raw (.slice none 0 0))]), (false, [.d (.i (termsR s).2.2)])]
def countO (s : Stk) (d : Int) : List (Nat × AO) := if (termsR s).2.2 = 0 then (if inB d 0 131072 = false then [] else [(9, cells4 s d s.rs.length)]) else []
theorem count_bad {s : Stk} (d : Int) (h : (termsR s).2.2 ≠ 0) : countV s d = .tup [(false, [.d (.raw (.slice none 0 0))]), (false, [.d (.i (termsR s).2.2)])] ∧ countO s d = [] := ⟨if_neg h, if_neg h⟩
theorem count_day {s : Stk} {d : Int} (h : (termsR s).2.2 = 0) (hd : inB d 0 131072 = false) : countV s d = .tup [(false, [.d (.raw (.slice none 0 0))]), (false, [.d (.i 2)])] ∧ countO s d = [] := by
  unfold countV countO; rw [if_pos h, if_pos h, if_pos hd, if_pos hd]; exact ⟨rfl, rfl⟩
theorem count_good {s : Stk} {d : Int} (h : (termsR s).2.2 = 0) (hd : inB d 0 131072 = true) : countV s d = .tup [(false, [.csl 9 0 4]), (false, [.d (.i 0)])] ∧ countO s d = [(9, cells4 s d s.rs.length)] := by
  unfold countV countO; rw [if_pos h, if_pos h, if_neg (by rw [hd]; decide), if_neg (by rw [hd]; decide)]; exact ⟨rfl, rfl⟩
set_option maxRecDepth 60000 in
set_option maxHeartbeats 16000000 in
/-- meterworks/term.Count -/
theorem c_term_Count (s : Stk) (h : Small s) (d : Int) : Con Try.prog 10 [stkV s, .int d] [] (.ret (countV s d) (countO s d)) := by
  refine con_of follows_mixed Try.func10 rfl (by simp only [List.length_cons, List.length_nil, Try.ntmps10]; omega) (by kernel_rfl) rfl ?_
  refine Exec.reg ?_
  iterate 3 (refine Run.o ?_)
  refine Run.nil ?_
  by_cases hok : (termsR s).2.2 = 0
  · skip
    obtain ⟨v, htb, hnd⟩ := good_facts hok
    have hrs := v.nrs
    have hbs := v.nbs
    have hcs := v.ncs
    have hll := htb.len
    have hrl := rws_len hll
    obtain ⟨hov, hoo⟩ := open_good hok
    have hoc := c_open s h
    rw [hov, hoo] at hoc
    have hrt : List.take s.rs.length ((rws s (termsL s)).map encRow) = (rws s (termsL s)).map encRow := List.take_of_length_le (by rw [List.length_map, hrl]; exact Nat.le_refl _)
    refine Exec.reg ?_
    refine Run.o1 (by simp only [go_sem, List.length_map, hrl, List.drop_zero, hrt] <;> rfl) ?_
    refine Run.lendG [] (by simp only [go_sem] <;> rfl) (hoc) (by simp only [go_sem]) (.inl ⟨[], by simp only [go_sem] <;> rfl, rfl⟩) (by simp only [go_sem] <;> rfl) (by exact ⟨by first | exact WkR.pure rfl | exact WkR.nil _ | exact WkR.int (by first | omega | (simp; done) | (simp; omega)), trivial⟩) rfl (by decide) rfl (by intro p hp; cases hp) (by intro p hp; cases hp) (by intro p hp hn; simp only [List.mem_cons, List.not_mem_nil, or_false] at hp; rcases hp with rfl | rfl <;> (simp only [go_sem] <;> rfl)) (by simp only [go_sem] <;> rfl) ?_
    refine Run.o ?_
    iterate 3 (refine Run.o1 (by simp only [go_sem, List.length_map, hrl, List.drop_zero, hrt] <;> rfl) ?_)
    iterate 3 (refine Run.o ?_)
    refine Run.nil ?_
    refine Exec.blk ?_
    refine Exec.reg ?_
    refine Run.o ?_
    refine Run.o1 (by simp only [go_sem, List.length_map, hrl, List.drop_zero, hrt] <;> rfl) ?_
    refine Run.o ?_
    refine Run.nil ?_
    refine Exec.cnd (by simp only [go_sem, List.length_map, hrl, List.drop_zero, hrt] <;> rfl) (fun hb19 => ?_) (fun hb19 => ?_)
    · exact absurd hb19 (by simp)
    refine Exec.reg ?_
    refine Run.o ?_
    refine Run.c1 (c_term_isDay _) (by simp only [go_sem, List.length_map, hrl, List.drop_zero, hrt] <;> rfl) (by simp only [go_sem, List.length_map, hrl, List.drop_zero, hrt] <;> rfl) ?_
    refine Run.o1 (by simp only [go_sem, List.length_map, hrl, List.drop_zero, hrt] <;> rfl) ?_
    refine Run.o ?_
    refine Run.nil ?_
    refine Exec.cnd (by simp only [go_sem, List.length_map, hrl, List.drop_zero, hrt] <;> rfl) (fun hb23 => ?_) (fun hb23 => ?_)
    · skip
      have hd : inB d 0 131072 = false := by simpa using hb23
      obtain ⟨hav, hao⟩ := count_day hok hd
      refine Exec.reg ?_
      iterate 2 (refine Run.o ?_)
      refine Run.nil ?_
      refine BlkK.ret ?_
      first
      | (refine Ends.fin [9] (rs := [.tmp 4, .tmp 5]) rfl (by simp only [go_sem, List.length_map, hrl, List.drop_zero, hrt, hav, hao] <;> rfl) ?_; simp only [go_sem, List.length_map, hrl, List.drop_zero, hrt, hav, hao] <;> first | rfl | ((repeat' (first | with_reducible_and_instances rfl | refine st_eq ?_ ?_ ?_ | refine ret_eq ?_ | refine tup_eq ?_ | refine tm_eq ?_ ?_ | refine arr_eq ?_ | refine cells_eq ?_ | refine val_eq ?_ | refine ls_eq ?_ ?_ | refine own_eq ?_ ?_ | refine sl_eq ?_ | refine b_eq ?_ | (refine i_eq ?_; omega))); done; done))
      | (refine Ends.fin [] (rs := [.tmp 4, .tmp 5]) rfl (by simp only [go_sem, List.length_map, hrl, List.drop_zero, hrt, hav, hao] <;> rfl) ?_; simp only [go_sem, List.length_map, hrl, List.drop_zero, hrt, hav, hao] <;> first | rfl | ((repeat' (first | with_reducible_and_instances rfl | refine st_eq ?_ ?_ ?_ | refine ret_eq ?_ | refine tup_eq ?_ | refine tm_eq ?_ ?_ | refine arr_eq ?_ | refine cells_eq ?_ | refine val_eq ?_ | refine ls_eq ?_ ?_ | refine own_eq ?_ ?_ | refine sl_eq ?_ | refine b_eq ?_ | (refine i_eq ?_; omega))); done; done))
    have hd : inB d 0 131072 = true := by simpa using hb23
    obtain ⟨hav, hao⟩ := count_good hok hd
    refine BlkK.nrm ?_
    refine Exec.reg ?_
    refine Run.o ?_
    refine Run.nil ?_
    refine Exec.assocS ?_
    refine Exec.reg ?_
    refine Run.frz 17000 (by simp only [go_sem, List.length_map, hrl, List.drop_zero, hrt] <;> rfl) ?_
    refine Run.o ?_
    refine Run.o1 (by simp only [go_sem, List.length_map, hrl, List.drop_zero, hrt] <;> rfl) ?_
    refine Run.o ?_
    iterate 2 (refine Run.o1 (by simp only [go_sem, List.length_map, hrl, List.drop_zero, hrt] <;> rfl) ?_)
    refine Run.o ?_
    refine Run.nil ?_
    refine Exec.blk ?_
    refine Exec.forA [1, 6, 9, 31, 32] [9, 44010] (s.rs.length) (fun k => [.slot 32 (.int k), .obj 9 (cells4 s d k)]) (fun _ => True) (fun k => by simp only [go_sem] <;> rfl) (by simp only [go_sem, List.length_map, hrl, List.drop_zero, hrt, Int.natCast_zero, cq_zero s (termsL s) d 0 (by decide), cq_zero s (termsL s) d 1 (by decide), cq_zero s (termsL s) d 2 (by decide), cq_zero s (termsL s) d 3 (by decide)] <;> rfl) ?_ (fun k hk hX => ?_)
    · trivial
    refine Exec.reg ?_
    refine Run.o1 (by simp only [go_sem, List.length_map, hrl, List.drop_zero, hrt] <;> rfl) ?_
    refine Run.nil ?_
    refine Exec.cndS (by simp only [go_sem, List.length_map, hrl, List.drop_zero, hrt] <;> rfl) (fun hb33 => ?_) (fun hb33 => ?_)
    · skip
      have hlt := lt_of_dec hb33
      have hrk := rws_get hll hlt
      have t2 : Int.toNat 2 = 2 := rfl
      have t3 : Int.toNat 3 = 3 := rfl
      have hrv := v.row _ (rowOf_mem hlt)
      have hbc : cntBk s.bs (rowOf s k) d ≤ s.bs.length := List.countP_le_length
      have hb0 := cq_bnd v (termsL s) d k (by omega) 0 (by decide)
      have hb1 := cq_bnd v (termsL s) d k (by omega) 1 (by decide)
      have hb2 := cq_bnd v (termsL s) d k (by omega) 2 (by decide)
      have hb3 := cq_bnd v (termsL s) d k (by omega) 3 (by decide)
      refine Exec.skipS ?_
      refine Exec.blk ?_
      refine Exec.reg ?_
      iterate 2 (refine Run.o ?_)
      refine Run.nil ?_
      refine Exec.reg ?_
      refine Run.o ?_
      refine Run.o1 (by simp only [go_sem, List.length_map, hrl, List.drop_zero, hrt, hrk, Int.toNat_zero, Int.toNat_one, t2, t3, Nat.zero_mul, Nat.one_mul, Nat.mul_one] <;> rfl) ?_
      refine Run.o ?_
      refine Run.o1 (by simp only [go_sem, List.length_map, hrl, List.drop_zero, hrt, hrk, Int.toNat_zero, Int.toNat_one, t2, t3, Nat.zero_mul, Nat.one_mul, Nat.mul_one] <;> rfl) ?_
      refine Run.o ?_
      refine Run.o1 (by simp only [go_sem, List.length_map, hrl, List.drop_zero, hrt, hrk, Int.toNat_zero, Int.toNat_one, t2, t3, Nat.zero_mul, Nat.one_mul, Nat.mul_one]; (try simp (disch := omega) only [if_pos]); (try simp only [go_sem, List.length_map, hrl, List.drop_zero, hrt, hrk, Int.toNat_zero, Int.toNat_one, t2, t3, Nat.zero_mul, Nat.one_mul, Nat.mul_one])<;> rfl) ?_
      refine Run.o ?_
      refine Run.nil ?_
      refine Exec.reg ?_
      iterate 3 (refine Run.o ?_)
      refine Run.lendG [(901, 44010)] (by simp only [go_sem] <;> rfl) (c_brokenOf s.bs hnd (by omega) (rowOf s k, endAt (termsL s) k) d) (by simp only [go_sem]) (.inl ⟨[], by simp only [go_sem] <;> rfl, rfl⟩) (by simp only [go_sem] <;> rfl) (by exact ⟨by first | exact WkR.pure rfl | exact WkR.of rfl rfl | exact WkR.nil _ | exact WkR.int (by first | omega | (simp; done) | (simp; omega)) | exact WkR.fptW rfl ⟨by first | exact .inl rfl | exact .inr rfl, by first | exact .inl rfl | exact .inr rfl, by first | exact .inl rfl | exact .inr rfl, by first | exact .inl rfl | exact .inr rfl, by first | exact .inl rfl | exact .inr rfl, by first | exact .inl rfl | exact .inr rfl, trivial⟩, by first | exact WkR.pure rfl | exact WkR.of rfl rfl | exact WkR.nil _ | exact WkR.int (by first | omega | (simp; done) | (simp; omega)) | exact WkR.fptW rfl ⟨by first | exact .inl rfl | exact .inr rfl, by first | exact .inl rfl | exact .inr rfl, by first | exact .inl rfl | exact .inr rfl, by first | exact .inl rfl | exact .inr rfl, by first | exact .inl rfl | exact .inr rfl, by first | exact .inl rfl | exact .inr rfl, trivial⟩, by first | exact WkR.pure rfl | exact WkR.of rfl rfl | exact WkR.nil _ | exact WkR.int (by first | omega | (simp; done) | (simp; omega)) | exact WkR.fptW rfl ⟨by first | exact .inl rfl | exact .inr rfl, by first | exact .inl rfl | exact .inr rfl, by first | exact .inl rfl | exact .inr rfl, by first | exact .inl rfl | exact .inr rfl, by first | exact .inl rfl | exact .inr rfl, by first | exact .inl rfl | exact .inr rfl, trivial⟩, trivial⟩) rfl (by decide) (by first | rfl | (simp only [List.all_cons, List.all_nil, inn_bk, Bool.and_true, Bool.true_and]; done) | (simp only [List.all_cons, List.all_nil, inn_bk, Bool.and_true, Bool.true_and] <;> rfl)) (by intro p hp n hn; simp only [List.mem_cons, List.not_mem_nil, or_false] at hp; rcases hp with rfl <;> (simp [look] at hn; subst hn; simp only [go_sem] <;> rfl)) (by intro p hp; simp only [List.mem_cons, List.not_mem_nil, or_false] at hp; rcases hp with rfl <;> (first | exact ⟨_, rfl, back_refl _⟩ | exact ⟨_, rfl, _, rfl, by simp⟩ | exact ⟨_, rfl, _, rfl⟩)) (by intro p hp hn; simp only [List.mem_cons, List.not_mem_nil, or_false] at hp; rcases hp with rfl <;> simp [look] at hn) (by simp only [go_sem] <;> rfl) ?_
      refine Run.o ?_
      refine Run.nil ?_
      by_cases hq0 : stOf (rowOf s k) (endAt (termsL s) k).1 d = 0
      · skip
        obtain ⟨hc0, hc1, hc2, hc3⟩ := cq_succ s (termsL s) d k
        rw [hq0] at hc0 hc1 hc2
        unfold rowV4 at hc0 hc1 hc2
        simp only [if_true, if_false, Int.add_zero, show ¬((0:Int)=1) from by decide, show ¬((0:Int)=2) from by decide, show ¬((1:Int)=0) from by decide, show ¬((1:Int)=2) from by decide, show ¬((2:Int)=0) from by decide, show ¬((2:Int)=1) from by decide] at hc0 hc1 hc2
        refine Exec.opk 24 ?_
        iterate 2 (refine OpenK.o ?_)
        refine OpenK.cal (c_row_status (rowOf s k, endAt (termsL s) k) d) (by simp only [go_sem]) (by simp only [go_sem, List.length_map, hrl, List.drop_zero, hrt, hrk, Int.toNat_zero, Int.toNat_one, t2, t3, Nat.zero_mul, Nat.one_mul, Nat.mul_one, hq0] <;> rfl) (by exact ⟨by first | exact WkR.pure rfl | exact WkR.nil _ | exact WkR.int (by first | omega | (simp; done) | (simp; omega)), by first | exact WkR.pure rfl | exact WkR.nil _ | exact WkR.int (by first | omega | (simp; done) | (simp; omega)), trivial⟩) (fr0) (by simp only [go_sem, List.length_map, hrl, List.drop_zero, hrt, hrk, Int.toNat_zero, Int.toNat_one, t2, t3, Nat.zero_mul, Nat.one_mul, Nat.mul_one, hq0] <;> rfl) (by simp only [go_sem] <;> rfl) (by simp only [go_sem] <;> rfl) ?_
        refine OpenK.o1 (by simp only [go_sem, List.length_map, hrl, List.drop_zero, hrt, hrk, Int.toNat_zero, Int.toNat_one, t2, t3, Nat.zero_mul, Nat.one_mul, Nat.mul_one, hq0]; (try simp (disch := omega) only [if_pos]); (try simp only [go_sem, List.length_map, hrl, List.drop_zero, hrt, hrk, Int.toNat_zero, Int.toNat_one, t2, t3, Nat.zero_mul, Nat.one_mul, Nat.mul_one, hq0])<;> rfl) ?_
        refine OpenK.o1 (by simp only [go_sem, List.length_map, hrl, List.drop_zero, hrt, hrk, Int.toNat_zero, Int.toNat_one, t2, t3, Nat.zero_mul, Nat.one_mul, Nat.mul_one, hq0] <;> rfl) ?_
        refine OpenK.o ?_
        refine OpenK.o1 (by simp only [go_sem, List.length_map, hrl, List.drop_zero, hrt, hrk, Int.toNat_zero, Int.toNat_one, t2, t3, Nat.zero_mul, Nat.one_mul, Nat.mul_one, hq0] <;> rfl) ?_
        iterate 2 (refine OpenK.o ?_)
        refine OpenK.o1 (by simp only [go_sem, List.length_map, hrl, List.drop_zero, hrt, hrk, Int.toNat_zero, Int.toNat_one, t2, t3, Nat.zero_mul, Nat.one_mul, Nat.mul_one, hq0] <;> rfl) ?_
        refine OpenK.o ?_
        refine OpenK.o1 (by simp only [go_sem, List.length_map, hrl, List.drop_zero, hrt, hrk, Int.toNat_zero, Int.toNat_one, t2, t3, Nat.zero_mul, Nat.one_mul, Nat.mul_one, hq0] <;> rfl) ?_
        iterate 2 (refine OpenK.o ?_)
        refine OpenK.o1 (by simp only [go_sem, List.length_map, hrl, List.drop_zero, hrt, hrk, Int.toNat_zero, Int.toNat_one, t2, t3, Nat.zero_mul, Nat.one_mul, Nat.mul_one, hq0] <;> rfl) ?_
        iterate 2 (refine OpenK.o1 (by simp only [go_sem, List.length_map, hrl, List.drop_zero, hrt, hrk, Int.toNat_zero, Int.toNat_one, t2, t3, Nat.zero_mul, Nat.one_mul, Nat.mul_one, hq0]; (try simp (disch := omega) only [IntWalk.i64_in, IntWalk.u64_in, if_neg, if_pos])<;> rfl) ?_)
        refine OpenK.o ?_
        iterate 2 (refine OpenK.o1 (by simp only [go_sem, List.length_map, hrl, List.drop_zero, hrt, hrk, Int.toNat_zero, Int.toNat_one, t2, t3, Nat.zero_mul, Nat.one_mul, Nat.mul_one, hq0]; (try simp (disch := omega) only [IntWalk.i64_in, IntWalk.u64_in, if_neg, if_pos])<;> rfl) ?_)
        refine OpenK.o1 (by simp only [go_sem, List.length_map, hrl, List.drop_zero, hrt, hrk, Int.toNat_zero, Int.toNat_one, t2, t3, Nat.zero_mul, Nat.one_mul, Nat.mul_one, hq0]; (try simp (disch := omega) only [if_pos]); (try simp only [go_sem, List.length_map, hrl, List.drop_zero, hrt, hrk, Int.toNat_zero, Int.toNat_one, t2, t3, Nat.zero_mul, Nat.one_mul, Nat.mul_one, hq0])<;> rfl) ?_
        refine OpenK.o ?_
        refine OpenK.nil (OpenE.finT (by kernel_rfl) (by kernel_rfl) (by kernel_rfl) ?_)
        refine Exec.reg1 ?_
        refine Run.o1 (by simp only [go_sem, List.length_map, hrl, List.drop_zero, hrt, hrk, Int.toNat_zero, Int.toNat_one, t2, t3, Nat.zero_mul, Nat.one_mul, Nat.mul_one, hq0]; (try simp (disch := omega) only [if_pos]); (try simp only [go_sem, List.length_map, hrl, List.drop_zero, hrt, hrk, Int.toNat_zero, Int.toNat_one, t2, t3, Nat.zero_mul, Nat.one_mul, Nat.mul_one, hq0])<;> rfl) ?_
        refine Run.o1 (by simp only [go_sem, List.length_map, hrl, List.drop_zero, hrt, hrk, Int.toNat_zero, Int.toNat_one, t2, t3, Nat.zero_mul, Nat.one_mul, Nat.mul_one, hq0] <;> rfl) ?_
        refine Run.o ?_
        refine Run.o1 (by simp only [go_sem, List.length_map, hrl, List.drop_zero, hrt, hrk, Int.toNat_zero, Int.toNat_one, t2, t3, Nat.zero_mul, Nat.one_mul, Nat.mul_one, hq0]; (try simp (disch := omega) only [IntWalk.i64_in, IntWalk.u64_in, if_neg, if_pos])<;> rfl) ?_
        refine Run.o1 (by simp only [go_sem, List.length_map, hrl, List.drop_zero, hrt, hrk, Int.toNat_zero, Int.toNat_one, t2, t3, Nat.zero_mul, Nat.one_mul, Nat.mul_one, hq0]; (try simp (disch := omega) only [if_pos]); (try simp only [go_sem, List.length_map, hrl, List.drop_zero, hrt, hrk, Int.toNat_zero, Int.toNat_one, t2, t3, Nat.zero_mul, Nat.one_mul, Nat.mul_one, hq0])<;> rfl) ?_
        refine Run.o ?_
        refine Run.nil ?_
        refine BlkK.nrm ?_
        refine Exec.reg1 ?_
        refine Run.o1 (by simp only [go_sem, List.length_map, hrl, List.drop_zero, hrt, hrk, Int.toNat_zero, Int.toNat_one, t2, t3, Nat.zero_mul, Nat.one_mul, Nat.mul_one, hq0]; (try simp (disch := omega) only [IntWalk.i64_in, IntWalk.u64_in, if_neg, if_pos])<;> rfl) ?_
        refine Run.o ?_
        refine Run.nil ?_
        refine ForK.nxt ?_ ?_ ?_
        · omega
        · exact Ghost.kp [1, 6, 9, 31, 32] [9, 44010] (by simp only [go_sem, List.length_map, hrl, List.drop_zero, hrt, hrk, Int.toNat_zero, Int.toNat_one, t2, t3, Nat.zero_mul, Nat.one_mul, Nat.mul_one, hq0]; first | ((repeat' (first | with_reducible_and_instances rfl | refine st_eq ?_ ?_ ?_ | refine ret_eq ?_ | refine tup_eq ?_ | refine tm_eq ?_ ?_ | refine arr_eq ?_ | refine cells_eq ?_ | refine val_eq ?_ | refine ls_eq ?_ ?_ | refine own_eq ?_ ?_ | refine sl_eq ?_ | refine b_eq ?_ | (refine i_eq ?_; omega))); done) | rfl)
        · trivial
      by_cases hq1 : stOf (rowOf s k) (endAt (termsL s) k).1 d = 1
      · skip
        obtain ⟨hc0, hc1, hc2, hc3⟩ := cq_succ s (termsL s) d k
        rw [hq1] at hc0 hc1 hc2
        unfold rowV4 at hc0 hc1 hc2
        simp only [if_true, if_false, Int.add_zero, show ¬((0:Int)=1) from by decide, show ¬((0:Int)=2) from by decide, show ¬((1:Int)=0) from by decide, show ¬((1:Int)=2) from by decide, show ¬((2:Int)=0) from by decide, show ¬((2:Int)=1) from by decide] at hc0 hc1 hc2
        refine Exec.opk 24 ?_
        iterate 2 (refine OpenK.o ?_)
        refine OpenK.cal (c_row_status (rowOf s k, endAt (termsL s) k) d) (by simp only [go_sem]) (by simp only [go_sem, List.length_map, hrl, List.drop_zero, hrt, hrk, Int.toNat_zero, Int.toNat_one, t2, t3, Nat.zero_mul, Nat.one_mul, Nat.mul_one, hq1] <;> rfl) (by exact ⟨by first | exact WkR.pure rfl | exact WkR.nil _ | exact WkR.int (by first | omega | (simp; done) | (simp; omega)), by first | exact WkR.pure rfl | exact WkR.nil _ | exact WkR.int (by first | omega | (simp; done) | (simp; omega)), trivial⟩) (fr0) (by simp only [go_sem, List.length_map, hrl, List.drop_zero, hrt, hrk, Int.toNat_zero, Int.toNat_one, t2, t3, Nat.zero_mul, Nat.one_mul, Nat.mul_one, hq1] <;> rfl) (by simp only [go_sem] <;> rfl) (by simp only [go_sem] <;> rfl) ?_
        refine OpenK.o1 (by simp only [go_sem, List.length_map, hrl, List.drop_zero, hrt, hrk, Int.toNat_zero, Int.toNat_one, t2, t3, Nat.zero_mul, Nat.one_mul, Nat.mul_one, hq1]; (try simp (disch := omega) only [if_pos]); (try simp only [go_sem, List.length_map, hrl, List.drop_zero, hrt, hrk, Int.toNat_zero, Int.toNat_one, t2, t3, Nat.zero_mul, Nat.one_mul, Nat.mul_one, hq1])<;> rfl) ?_
        refine OpenK.o1 (by simp only [go_sem, List.length_map, hrl, List.drop_zero, hrt, hrk, Int.toNat_zero, Int.toNat_one, t2, t3, Nat.zero_mul, Nat.one_mul, Nat.mul_one, hq1] <;> rfl) ?_
        refine OpenK.o ?_
        refine OpenK.o1 (by simp only [go_sem, List.length_map, hrl, List.drop_zero, hrt, hrk, Int.toNat_zero, Int.toNat_one, t2, t3, Nat.zero_mul, Nat.one_mul, Nat.mul_one, hq1] <;> rfl) ?_
        iterate 2 (refine OpenK.o ?_)
        refine OpenK.o1 (by simp only [go_sem, List.length_map, hrl, List.drop_zero, hrt, hrk, Int.toNat_zero, Int.toNat_one, t2, t3, Nat.zero_mul, Nat.one_mul, Nat.mul_one, hq1] <;> rfl) ?_
        refine OpenK.o ?_
        refine OpenK.o1 (by simp only [go_sem, List.length_map, hrl, List.drop_zero, hrt, hrk, Int.toNat_zero, Int.toNat_one, t2, t3, Nat.zero_mul, Nat.one_mul, Nat.mul_one, hq1] <;> rfl) ?_
        iterate 2 (refine OpenK.o ?_)
        refine OpenK.o1 (by simp only [go_sem, List.length_map, hrl, List.drop_zero, hrt, hrk, Int.toNat_zero, Int.toNat_one, t2, t3, Nat.zero_mul, Nat.one_mul, Nat.mul_one, hq1] <;> rfl) ?_
        iterate 2 (refine OpenK.o1 (by simp only [go_sem, List.length_map, hrl, List.drop_zero, hrt, hrk, Int.toNat_zero, Int.toNat_one, t2, t3, Nat.zero_mul, Nat.one_mul, Nat.mul_one, hq1]; (try simp (disch := omega) only [IntWalk.i64_in, IntWalk.u64_in, if_neg, if_pos])<;> rfl) ?_)
        refine OpenK.o ?_
        iterate 2 (refine OpenK.o1 (by simp only [go_sem, List.length_map, hrl, List.drop_zero, hrt, hrk, Int.toNat_zero, Int.toNat_one, t2, t3, Nat.zero_mul, Nat.one_mul, Nat.mul_one, hq1]; (try simp (disch := omega) only [IntWalk.i64_in, IntWalk.u64_in, if_neg, if_pos])<;> rfl) ?_)
        refine OpenK.o1 (by simp only [go_sem, List.length_map, hrl, List.drop_zero, hrt, hrk, Int.toNat_zero, Int.toNat_one, t2, t3, Nat.zero_mul, Nat.one_mul, Nat.mul_one, hq1]; (try simp (disch := omega) only [if_pos]); (try simp only [go_sem, List.length_map, hrl, List.drop_zero, hrt, hrk, Int.toNat_zero, Int.toNat_one, t2, t3, Nat.zero_mul, Nat.one_mul, Nat.mul_one, hq1])<;> rfl) ?_
        refine OpenK.o ?_
        refine OpenK.nil (OpenE.finT (by kernel_rfl) (by kernel_rfl) (by kernel_rfl) ?_)
        refine Exec.reg1 ?_
        refine Run.o1 (by simp only [go_sem, List.length_map, hrl, List.drop_zero, hrt, hrk, Int.toNat_zero, Int.toNat_one, t2, t3, Nat.zero_mul, Nat.one_mul, Nat.mul_one, hq1]; (try simp (disch := omega) only [if_pos]); (try simp only [go_sem, List.length_map, hrl, List.drop_zero, hrt, hrk, Int.toNat_zero, Int.toNat_one, t2, t3, Nat.zero_mul, Nat.one_mul, Nat.mul_one, hq1])<;> rfl) ?_
        refine Run.o1 (by simp only [go_sem, List.length_map, hrl, List.drop_zero, hrt, hrk, Int.toNat_zero, Int.toNat_one, t2, t3, Nat.zero_mul, Nat.one_mul, Nat.mul_one, hq1] <;> rfl) ?_
        refine Run.o ?_
        refine Run.o1 (by simp only [go_sem, List.length_map, hrl, List.drop_zero, hrt, hrk, Int.toNat_zero, Int.toNat_one, t2, t3, Nat.zero_mul, Nat.one_mul, Nat.mul_one, hq1]; (try simp (disch := omega) only [IntWalk.i64_in, IntWalk.u64_in, if_neg, if_pos])<;> rfl) ?_
        refine Run.o1 (by simp only [go_sem, List.length_map, hrl, List.drop_zero, hrt, hrk, Int.toNat_zero, Int.toNat_one, t2, t3, Nat.zero_mul, Nat.one_mul, Nat.mul_one, hq1]; (try simp (disch := omega) only [if_pos]); (try simp only [go_sem, List.length_map, hrl, List.drop_zero, hrt, hrk, Int.toNat_zero, Int.toNat_one, t2, t3, Nat.zero_mul, Nat.one_mul, Nat.mul_one, hq1])<;> rfl) ?_
        refine Run.o ?_
        refine Run.nil ?_
        refine BlkK.nrm ?_
        refine Exec.reg1 ?_
        refine Run.o1 (by simp only [go_sem, List.length_map, hrl, List.drop_zero, hrt, hrk, Int.toNat_zero, Int.toNat_one, t2, t3, Nat.zero_mul, Nat.one_mul, Nat.mul_one, hq1]; (try simp (disch := omega) only [IntWalk.i64_in, IntWalk.u64_in, if_neg, if_pos])<;> rfl) ?_
        refine Run.o ?_
        refine Run.nil ?_
        refine ForK.nxt ?_ ?_ ?_
        · omega
        · exact Ghost.kp [1, 6, 9, 31, 32] [9, 44010] (by simp only [go_sem, List.length_map, hrl, List.drop_zero, hrt, hrk, Int.toNat_zero, Int.toNat_one, t2, t3, Nat.zero_mul, Nat.one_mul, Nat.mul_one, hq1]; first | ((repeat' (first | with_reducible_and_instances rfl | refine st_eq ?_ ?_ ?_ | refine ret_eq ?_ | refine tup_eq ?_ | refine tm_eq ?_ ?_ | refine arr_eq ?_ | refine cells_eq ?_ | refine val_eq ?_ | refine ls_eq ?_ ?_ | refine own_eq ?_ ?_ | refine sl_eq ?_ | refine b_eq ?_ | (refine i_eq ?_; omega))); done) | rfl)
        · trivial
      have hq2 : stOf (rowOf s k) (endAt (termsL s) k).1 d = 2 := by rcases st_three (rowOf s k) (endAt (termsL s) k).1 d with h | h | h; exact absurd h hq0; exact absurd h hq1; exact h
      obtain ⟨hc0, hc1, hc2, hc3⟩ := cq_succ s (termsL s) d k
      rw [hq2] at hc0 hc1 hc2
      unfold rowV4 at hc0 hc1 hc2
      simp only [if_true, if_false, Int.add_zero, show ¬((0:Int)=1) from by decide, show ¬((0:Int)=2) from by decide, show ¬((1:Int)=0) from by decide, show ¬((1:Int)=2) from by decide, show ¬((2:Int)=0) from by decide, show ¬((2:Int)=1) from by decide] at hc0 hc1 hc2
      refine Exec.opk 24 ?_
      iterate 2 (refine OpenK.o ?_)
      refine OpenK.cal (c_row_status (rowOf s k, endAt (termsL s) k) d) (by simp only [go_sem]) (by simp only [go_sem, List.length_map, hrl, List.drop_zero, hrt, hrk, Int.toNat_zero, Int.toNat_one, t2, t3, Nat.zero_mul, Nat.one_mul, Nat.mul_one, hq2] <;> rfl) (by exact ⟨by first | exact WkR.pure rfl | exact WkR.nil _ | exact WkR.int (by first | omega | (simp; done) | (simp; omega)), by first | exact WkR.pure rfl | exact WkR.nil _ | exact WkR.int (by first | omega | (simp; done) | (simp; omega)), trivial⟩) (fr0) (by simp only [go_sem, List.length_map, hrl, List.drop_zero, hrt, hrk, Int.toNat_zero, Int.toNat_one, t2, t3, Nat.zero_mul, Nat.one_mul, Nat.mul_one, hq2] <;> rfl) (by simp only [go_sem] <;> rfl) (by simp only [go_sem] <;> rfl) ?_
      refine OpenK.o1 (by simp only [go_sem, List.length_map, hrl, List.drop_zero, hrt, hrk, Int.toNat_zero, Int.toNat_one, t2, t3, Nat.zero_mul, Nat.one_mul, Nat.mul_one, hq2]; (try simp (disch := omega) only [if_pos]); (try simp only [go_sem, List.length_map, hrl, List.drop_zero, hrt, hrk, Int.toNat_zero, Int.toNat_one, t2, t3, Nat.zero_mul, Nat.one_mul, Nat.mul_one, hq2])<;> rfl) ?_
      refine OpenK.o1 (by simp only [go_sem, List.length_map, hrl, List.drop_zero, hrt, hrk, Int.toNat_zero, Int.toNat_one, t2, t3, Nat.zero_mul, Nat.one_mul, Nat.mul_one, hq2] <;> rfl) ?_
      refine OpenK.o ?_
      refine OpenK.o1 (by simp only [go_sem, List.length_map, hrl, List.drop_zero, hrt, hrk, Int.toNat_zero, Int.toNat_one, t2, t3, Nat.zero_mul, Nat.one_mul, Nat.mul_one, hq2] <;> rfl) ?_
      iterate 2 (refine OpenK.o ?_)
      refine OpenK.o1 (by simp only [go_sem, List.length_map, hrl, List.drop_zero, hrt, hrk, Int.toNat_zero, Int.toNat_one, t2, t3, Nat.zero_mul, Nat.one_mul, Nat.mul_one, hq2] <;> rfl) ?_
      refine OpenK.o ?_
      refine OpenK.o1 (by simp only [go_sem, List.length_map, hrl, List.drop_zero, hrt, hrk, Int.toNat_zero, Int.toNat_one, t2, t3, Nat.zero_mul, Nat.one_mul, Nat.mul_one, hq2] <;> rfl) ?_
      iterate 2 (refine OpenK.o ?_)
      refine OpenK.o1 (by simp only [go_sem, List.length_map, hrl, List.drop_zero, hrt, hrk, Int.toNat_zero, Int.toNat_one, t2, t3, Nat.zero_mul, Nat.one_mul, Nat.mul_one, hq2] <;> rfl) ?_
      iterate 2 (refine OpenK.o1 (by simp only [go_sem, List.length_map, hrl, List.drop_zero, hrt, hrk, Int.toNat_zero, Int.toNat_one, t2, t3, Nat.zero_mul, Nat.one_mul, Nat.mul_one, hq2]; (try simp (disch := omega) only [IntWalk.i64_in, IntWalk.u64_in, if_neg, if_pos])<;> rfl) ?_)
      refine OpenK.o ?_
      iterate 2 (refine OpenK.o1 (by simp only [go_sem, List.length_map, hrl, List.drop_zero, hrt, hrk, Int.toNat_zero, Int.toNat_one, t2, t3, Nat.zero_mul, Nat.one_mul, Nat.mul_one, hq2]; (try simp (disch := omega) only [IntWalk.i64_in, IntWalk.u64_in, if_neg, if_pos])<;> rfl) ?_)
      refine OpenK.o1 (by simp only [go_sem, List.length_map, hrl, List.drop_zero, hrt, hrk, Int.toNat_zero, Int.toNat_one, t2, t3, Nat.zero_mul, Nat.one_mul, Nat.mul_one, hq2]; (try simp (disch := omega) only [if_pos]); (try simp only [go_sem, List.length_map, hrl, List.drop_zero, hrt, hrk, Int.toNat_zero, Int.toNat_one, t2, t3, Nat.zero_mul, Nat.one_mul, Nat.mul_one, hq2])<;> rfl) ?_
      refine OpenK.o ?_
      refine OpenK.nil (OpenE.finT (by kernel_rfl) (by kernel_rfl) (by kernel_rfl) ?_)
      refine Exec.reg1 ?_
      refine Run.o1 (by simp only [go_sem, List.length_map, hrl, List.drop_zero, hrt, hrk, Int.toNat_zero, Int.toNat_one, t2, t3, Nat.zero_mul, Nat.one_mul, Nat.mul_one, hq2]; (try simp (disch := omega) only [if_pos]); (try simp only [go_sem, List.length_map, hrl, List.drop_zero, hrt, hrk, Int.toNat_zero, Int.toNat_one, t2, t3, Nat.zero_mul, Nat.one_mul, Nat.mul_one, hq2])<;> rfl) ?_
      refine Run.o1 (by simp only [go_sem, List.length_map, hrl, List.drop_zero, hrt, hrk, Int.toNat_zero, Int.toNat_one, t2, t3, Nat.zero_mul, Nat.one_mul, Nat.mul_one, hq2] <;> rfl) ?_
      refine Run.o ?_
      refine Run.o1 (by simp only [go_sem, List.length_map, hrl, List.drop_zero, hrt, hrk, Int.toNat_zero, Int.toNat_one, t2, t3, Nat.zero_mul, Nat.one_mul, Nat.mul_one, hq2]; (try simp (disch := omega) only [IntWalk.i64_in, IntWalk.u64_in, if_neg, if_pos])<;> rfl) ?_
      refine Run.o1 (by simp only [go_sem, List.length_map, hrl, List.drop_zero, hrt, hrk, Int.toNat_zero, Int.toNat_one, t2, t3, Nat.zero_mul, Nat.one_mul, Nat.mul_one, hq2]; (try simp (disch := omega) only [if_pos]); (try simp only [go_sem, List.length_map, hrl, List.drop_zero, hrt, hrk, Int.toNat_zero, Int.toNat_one, t2, t3, Nat.zero_mul, Nat.one_mul, Nat.mul_one, hq2])<;> rfl) ?_
      refine Run.o ?_
      refine Run.nil ?_
      refine BlkK.nrm ?_
      refine Exec.reg1 ?_
      refine Run.o1 (by simp only [go_sem, List.length_map, hrl, List.drop_zero, hrt, hrk, Int.toNat_zero, Int.toNat_one, t2, t3, Nat.zero_mul, Nat.one_mul, Nat.mul_one, hq2]; (try simp (disch := omega) only [IntWalk.i64_in, IntWalk.u64_in, if_neg, if_pos])<;> rfl) ?_
      refine Run.o ?_
      refine Run.nil ?_
      refine ForK.nxt ?_ ?_ ?_
      · omega
      · exact Ghost.kp [1, 6, 9, 31, 32] [9, 44010] (by simp only [go_sem, List.length_map, hrl, List.drop_zero, hrt, hrk, Int.toNat_zero, Int.toNat_one, t2, t3, Nat.zero_mul, Nat.one_mul, Nat.mul_one, hq2]; first | ((repeat' (first | with_reducible_and_instances rfl | refine st_eq ?_ ?_ ?_ | refine ret_eq ?_ | refine tup_eq ?_ | refine tm_eq ?_ ?_ | refine arr_eq ?_ | refine cells_eq ?_ | refine val_eq ?_ | refine ls_eq ?_ ?_ | refine own_eq ?_ ?_ | refine sl_eq ?_ | refine b_eq ?_ | (refine i_eq ?_; omega))); done) | rfl)
      · trivial
    have hke : k = s.rs.length := by have := ge_of_dec hb33; omega
    subst hke
    refine Exec.exitS ?_
    refine ForK.ext ?_
    refine BlkK.hit ?_
    refine Exec.reg ?_
    refine Run.o1 (by simp only [go_sem, List.length_map, hrl, List.drop_zero, hrt, hav, hao]; (try simp (disch := omega) only [if_pos]); (try simp only [go_sem, List.length_map, hrl, List.drop_zero, hrt, hav, hao])<;> rfl) ?_
    iterate 2 (refine Run.o ?_)
    refine Run.nil ?_
    first
    | (refine Ends.fin [9] (rs := [.tmp 4, .tmp 5]) rfl (by simp only [go_sem, List.length_map, hrl, List.drop_zero, hrt, hav, hao] <;> rfl) ?_; simp only [go_sem, List.length_map, hrl, List.drop_zero, hrt, hav, hao] <;> first | rfl | ((repeat' (first | with_reducible_and_instances rfl | refine st_eq ?_ ?_ ?_ | refine ret_eq ?_ | refine tup_eq ?_ | refine tm_eq ?_ ?_ | refine arr_eq ?_ | refine cells_eq ?_ | refine val_eq ?_ | refine ls_eq ?_ ?_ | refine own_eq ?_ ?_ | refine sl_eq ?_ | refine b_eq ?_ | (refine i_eq ?_; omega))); done; done))
    | (refine Ends.fin [] (rs := [.tmp 4, .tmp 5]) rfl (by simp only [go_sem, List.length_map, hrl, List.drop_zero, hrt, hav, hao] <;> rfl) ?_; simp only [go_sem, List.length_map, hrl, List.drop_zero, hrt, hav, hao] <;> first | rfl | ((repeat' (first | with_reducible_and_instances rfl | refine st_eq ?_ ?_ ?_ | refine ret_eq ?_ | refine tup_eq ?_ | refine tm_eq ?_ ?_ | refine arr_eq ?_ | refine cells_eq ?_ | refine val_eq ?_ | refine ls_eq ?_ ?_ | refine own_eq ?_ ?_ | refine sl_eq ?_ | refine b_eq ?_ | (refine i_eq ?_; omega))); done; done))
  obtain ⟨hov, hoo⟩ := open_bad (s := s) rfl hok
  have hoc := c_open s h
  rw [hov, hoo] at hoc
  obtain ⟨hav, hao⟩ := count_bad d hok
  refine Exec.reg ?_
  refine Run.o1 (by simp only [go_sem, hok, hav, hao] <;> rfl) ?_
  refine Run.c1 (hoc) (by simp only [go_sem, hok, hav, hao] <;> rfl) (by simp only [go_sem, hok, hav, hao] <;> rfl) ?_
  refine Run.o ?_
  iterate 3 (refine Run.o1 (by simp only [go_sem, hok, hav, hao] <;> rfl) ?_)
  iterate 3 (refine Run.o ?_)
  refine Run.nil ?_
  refine Exec.blk ?_
  refine Exec.reg ?_
  refine Run.o ?_
  refine Run.o1 (by simp only [go_sem, hok, hav, hao] <;> rfl) ?_
  refine Run.o ?_
  refine Run.nil ?_
  refine Exec.cnd (by simp only [go_sem, hok, hav, hao] <;> rfl) (fun hb19 => ?_) (fun hb19 => ?_)
  · skip
    refine Exec.reg ?_
    iterate 3 (refine Run.o ?_)
    refine Run.nil ?_
    refine BlkK.ret ?_
    first
    | (refine Ends.fin [9] (rs := [.tmp 4, .tmp 5]) rfl (by simp only [go_sem, hok, hav, hao] <;> rfl) ?_; simp only [go_sem, hok, hav, hao] <;> first | rfl | ((repeat' (first | with_reducible_and_instances rfl | refine st_eq ?_ ?_ ?_ | refine ret_eq ?_ | refine tup_eq ?_ | refine tm_eq ?_ ?_ | refine arr_eq ?_ | refine cells_eq ?_ | refine val_eq ?_ | refine ls_eq ?_ ?_ | refine own_eq ?_ ?_ | refine sl_eq ?_ | refine b_eq ?_ | (refine i_eq ?_; omega))); done; done))
    | (refine Ends.fin [] (rs := [.tmp 4, .tmp 5]) rfl (by simp only [go_sem, hok, hav, hao] <;> rfl) ?_; simp only [go_sem, hok, hav, hao] <;> first | rfl | ((repeat' (first | with_reducible_and_instances rfl | refine st_eq ?_ ?_ ?_ | refine ret_eq ?_ | refine tup_eq ?_ | refine tm_eq ?_ ?_ | refine arr_eq ?_ | refine cells_eq ?_ | refine val_eq ?_ | refine ls_eq ?_ ?_ | refine own_eq ?_ ?_ | refine sl_eq ?_ | refine b_eq ?_ | (refine i_eq ?_; omega))); done; done))
  exact absurd (int_eq hb19) hok

end Go.Mw
namespace Go.Mw
open Go.Proofs
open Go.Te
theorem dueTo_len (s : Stk) (l : List (Int × Int)) (lo hi : Int) : ∀ k, (dueTo s l lo hi k).length = s.cs.length
  | 0 => by simp [dueTo]
  | k + 1 => by
    rw [dueTo]
    split
    · rw [addAt_len, dueTo_len s l lo hi k]
    · exact dueTo_len s l lo hi k
theorem dueTo_bnd {s : Stk} (v : Val s) (l : List (Int × Int)) (lo hi : Int) : ∀ k, k ≤ s.rs.length → ∀ x ∈ dueTo s l lo hi k, -(2000000 * (k : Int)) ≤ x ∧ x ≤ 2000000 * k
  | 0, _, x, hx => by
    rw [dueTo] at hx
    have := List.eq_of_mem_replicate hx
    omega
  | k + 1, hk, x, hx => by
    have ih := dueTo_bnd v l lo hi k (by omega)
    rw [dueTo] at hx
    split at hx
    · have hr := v.row _ (rowOf_mem (s := s) (i := k) (by omega))
      have hb : brkOf s (rowOf s k) (endAt l k).1 ≤ s.bs.length := Int.ofNat_le.2 List.countP_le_length
      have hb0 : 0 ≤ brkOf s (rowOf s k) (endAt l k).1 := Int.natCast_nonneg _
      have hb2 := v.nbs
      have hlen := dueTo_len s l lo hi k
      obtain ⟨y, hy⟩ := getElem_mem_of (l := dueTo s l lo hi k) (i := (rowOf s k).cl.toNat) (by omega)
      rw [addAt_of hy] at hx
      have hyb := ih y (List.mem_of_getElem? hy)
      rcases List.mem_or_eq_of_mem_set hx with h1 | h1
      · have := ih x h1
        omega
      · omega
    · have := ih x hx
      omega
def dueV (s : Stk) (lo hi : Int) : AV := if (termsR s).2.2 = 0 then (if dueErr lo hi = true then .tup [(false, [.d (.raw (.slice none 0 0))]), (false, [.d (.i 2)])] else .tup [(false, [.own 38 0 s.cs.length s.cs.length]), (false, [.d (.i 0)])]) else .tup [(false, [.d (.raw (.slice none 0 0))]), (false, [.d (.i (termsR s).2.2)])]
def dueO (s : Stk) (lo hi : Int) : List (Nat × AO) := if (termsR s).2.2 = 0 then (if dueErr lo hi = true then [] else [(38, .arr 3 1 ((dueTo s (termsL s) lo hi s.rs.length).map encInt))]) else []
theorem due_bad {s : Stk} (lo hi : Int) (h : (termsR s).2.2 ≠ 0) : dueV s lo hi = .tup [(false, [.d (.raw (.slice none 0 0))]), (false, [.d (.i (termsR s).2.2)])] ∧ dueO s lo hi = [] := ⟨if_neg h, if_neg h⟩
theorem due_day {s : Stk} {lo hi : Int} (h : (termsR s).2.2 = 0) (hd : dueErr lo hi = true) : dueV s lo hi = .tup [(false, [.d (.raw (.slice none 0 0))]), (false, [.d (.i 2)])] ∧ dueO s lo hi = [] := by
  unfold dueV dueO; rw [if_pos h, if_pos h, if_pos hd, if_pos hd]; exact ⟨rfl, rfl⟩
theorem due_good {s : Stk} {lo hi : Int} (h : (termsR s).2.2 = 0) (hd : ¬ dueErr lo hi = true) : dueV s lo hi = .tup [(false, [.own 38 0 s.cs.length s.cs.length]), (false, [.d (.i 0)])] ∧ dueO s lo hi = [(38, .arr 3 1 ((dueTo s (termsL s) lo hi s.rs.length).map encInt))] := by
  unfold dueV dueO; rw [if_pos h, if_pos h, if_neg hd, if_neg hd]; exact ⟨rfl, rfl⟩
theorem dueErr_iff (lo hi : Int) : dueErr lo hi = true ↔ ¬ (inB hi 0 131072 = true ∧ inB lo 0 hi = true) := by
  unfold dueErr
  simp only [inB_iff, Bool.or_eq_true, decide_eq_true_eq]
  omega
set_option maxRecDepth 60000 in
set_option maxHeartbeats 16000000 in
/-- meterworks/term.Due -/
theorem c_term_Due (s : Stk) (h : Small s) (lo hi : Int) : Con Try.prog 12 [stkV s, spanV lo hi] [] (.ret (dueV s lo hi) (dueO s lo hi)) := by
  refine con_of follows_mixed Try.func12 rfl (by simp only [List.length_cons, List.length_nil, Try.ntmps12]; omega) (by kernel_rfl) rfl ?_
  refine Exec.reg ?_
  iterate 4 (refine Run.o ?_)
  refine Run.nil ?_
  by_cases hok : (termsR s).2.2 = 0
  · skip
    obtain ⟨v, htb, hnd⟩ := good_facts hok
    have hrs := v.nrs
    have hbs := v.nbs
    have hcs := v.ncs
    have hll := htb.len
    have hrl := rws_len hll
    obtain ⟨hov, hoo⟩ := open_good hok
    have hoc := c_open s h
    rw [hov, hoo] at hoc
    have hrt : List.take s.rs.length ((rws s (termsL s)).map encRow) = (rws s (termsL s)).map encRow := List.take_of_length_le (by rw [List.length_map, hrl]; exact Nat.le_refl _)
    refine Exec.reg ?_
    refine Run.o1 (by simp only [go_sem, List.length_map, hrl, List.drop_zero, hrt] <;> rfl) ?_
    refine Run.lendG [] (by simp only [go_sem] <;> rfl) (hoc) (by simp only [go_sem]) (.inl ⟨[], by simp only [go_sem] <;> rfl, rfl⟩) (by simp only [go_sem] <;> rfl) (by exact ⟨by first | exact WkR.pure rfl | exact WkR.nil _ | exact WkR.int (by first | omega | (simp; done) | (simp; omega)), trivial⟩) rfl (by decide) rfl (by intro p hp; cases hp) (by intro p hp; cases hp) (by intro p hp hn; simp only [List.mem_cons, List.not_mem_nil, or_false] at hp; rcases hp with rfl | rfl <;> (simp only [go_sem] <;> rfl)) (by simp only [go_sem] <;> rfl) ?_
    iterate 7 (refine Run.o1 (by simp only [go_sem, List.length_map, hrl, List.drop_zero, hrt] <;> rfl) ?_)
    refine Run.nil ?_
    refine Exec.blk ?_
    refine Exec.reg ?_
    iterate 3 (refine Run.o1 (by simp only [go_sem, List.length_map, hrl, List.drop_zero, hrt] <;> rfl) ?_)
    refine Run.nil ?_
    refine Exec.cnd (by simp only [go_sem, List.length_map, hrl, List.drop_zero, hrt] <;> rfl) (fun hb18 => ?_) (fun hb18 => ?_)
    · exact absurd hb18 (by simp)
    · skip
      by_cases hdh : inB hi 0 131072 = true
      · skip
        refine Exec.reg ?_
        iterate 2 (refine Run.o1 (by simp only [go_sem, List.length_map, hrl, List.drop_zero, hrt, hdh] <;> rfl) ?_)
        refine Run.c1 (c_term_isDay _) (by simp only [go_sem, List.length_map, hrl, List.drop_zero, hrt, hdh] <;> rfl) (by simp only [go_sem, List.length_map, hrl, List.drop_zero, hrt, hdh] <;> rfl) ?_
        iterate 2 (refine Run.o1 (by simp only [go_sem, List.length_map, hrl, List.drop_zero, hrt, hdh] <;> rfl) ?_)
        refine Run.y1 (by simp only [go_sem, List.length_map, hrl, List.drop_zero, hrt, hdh] <;> rfl) ?_
        refine Run.y1 (by simp only [go_sem, List.length_map, hrl, List.drop_zero, hrt, hdh] <;> rfl) ?_
        refine Run.y1 (by simp only [go_sem, List.length_map, hrl, List.drop_zero, hrt, hdh] <;> rfl) ?_
        refine Run.y1 (by simp only [go_sem, List.length_map, hrl, List.drop_zero, hrt, hdh] <;> rfl) ?_
        refine Run.calw (by simp only [go_sem] <;> rfl) (c_term_within _ _ _) (by simp only [go_sem]) (by simp only [go_sem, List.length_map, hrl, List.drop_zero, hrt, hdh] <;> rfl) (by simp only [go_sem, List.length_map, hrl, List.drop_zero, hrt, hdh] <;> rfl) (by exact ⟨by first | exact WkR.pure rfl | exact WkR.nil _ | exact WkR.int (by first | omega | (simp; done) | (simp; omega)), by first | exact WkR.pure rfl | exact WkR.nil _ | exact WkR.int (by first | omega | (simp; done) | (simp; omega)), by first | exact WkR.pure rfl | exact WkR.nil _ | exact WkR.int (by first | omega | (simp; done) | (simp; omega)), trivial⟩) (fr0) (by simp only [go_sem, List.length_map, hrl, List.drop_zero, hrt, hdh] <;> rfl) ?_
        refine Run.y1 (by simp only [go_sem, List.length_map, hrl, List.drop_zero, hrt, hdh] <;> rfl) ?_
        iterate 2 (refine Run.o1 (by simp only [go_sem, List.length_map, hrl, List.drop_zero, hrt, hdh] <;> rfl) ?_)
        refine Run.nil ?_
        refine Exec.cnd (by simp only [go_sem, List.length_map, hrl, List.drop_zero, hrt, hdh] <;> rfl) (fun hb22 => ?_) (fun hb22 => ?_)
        · skip
          have hlo : inB lo 0 hi = false := by simpa using hb22
          obtain ⟨hav, hao⟩ := due_day hok ((dueErr_iff lo hi).2 fun h => by rw [hlo] at h; cases h.2)
          refine Exec.reg ?_
          iterate 2 (refine Run.o1 (by simp only [go_sem, List.length_map, hrl, List.drop_zero, hrt, hdh, hav, hao] <;> rfl) ?_)
          refine Run.nil ?_
          refine BlkK.ret ?_
          first
          | (refine Ends.fin [38] (rs := [.tmp 4, .tmp 5]) rfl (by simp only [go_sem, List.length_map, hrl, List.drop_zero, hrt, hdh, hav, hao] <;> rfl) ?_; simp only [go_sem, List.length_map, hrl, List.drop_zero, hrt, hdh, hav, hao] <;> first | rfl | ((repeat' (first | with_reducible_and_instances rfl | refine st_eq ?_ ?_ ?_ | refine ret_eq ?_ | refine tup_eq ?_ | refine tm_eq ?_ ?_ | refine arr_eq ?_ | refine cells_eq ?_ | refine val_eq ?_ | refine ls_eq ?_ ?_ | refine own_eq ?_ ?_ | refine sl_eq ?_ | refine b_eq ?_ | (refine i_eq ?_; omega))); done; done))
          | (refine Ends.fin [] (rs := [.tmp 4, .tmp 5]) rfl (by simp only [go_sem, List.length_map, hrl, List.drop_zero, hrt, hdh, hav, hao] <;> rfl) ?_; simp only [go_sem, List.length_map, hrl, List.drop_zero, hrt, hdh, hav, hao] <;> first | rfl | ((repeat' (first | with_reducible_and_instances rfl | refine st_eq ?_ ?_ ?_ | refine ret_eq ?_ | refine tup_eq ?_ | refine tm_eq ?_ ?_ | refine arr_eq ?_ | refine cells_eq ?_ | refine val_eq ?_ | refine ls_eq ?_ ?_ | refine own_eq ?_ ?_ | refine sl_eq ?_ | refine b_eq ?_ | (refine i_eq ?_; omega))); done; done))
        · skip
          have hlo : inB lo 0 hi = true := by simpa using hb22
          obtain ⟨hav, hao⟩ := due_good hok (fun h => (dueErr_iff lo hi).1 h ⟨hdh, hlo⟩)
          refine BlkK.nrm ?_
          refine Exec.reg ?_
          iterate 3 (refine Run.o1 (by simp only [go_sem, List.length_map, hrl, List.drop_zero, hrt, hdh] <;> rfl) ?_)
          refine Run.o1 (by simp only [go_sem, List.length_map, hrl, List.drop_zero, hrt, hdh]; (try simp (disch := omega) only [if_pos]); (try simp only [go_sem, List.length_map, hrl, List.drop_zero, hrt, hdh])<;> rfl) ?_
          refine Run.o1 (by simp only [go_sem, List.length_map, hrl, List.drop_zero, hrt, hdh] <;> rfl) ?_
          refine Run.nil ?_
          refine Exec.assocS ?_
          refine Exec.reg ?_
          refine Run.frz 16000 (by simp only [go_sem, List.length_map, hrl, List.drop_zero, hrt] <;> rfl) ?_
          iterate 6 (refine Run.o1 (by simp only [go_sem, List.length_map, hrl, List.drop_zero, hrt, hdh] <;> rfl) ?_)
          refine Run.nil ?_
          refine Exec.blk ?_
          refine Exec.forA [3, 6, 9, 43, 44] [3, 38, 43010] (s.rs.length) (fun k => [.slot 44 (.int k), .slot 9 (.leaf (.own 38 0 s.cs.length s.cs.length)), .obj 38 (.arr 3 1 ((dueTo s (termsL s) lo hi k).map encInt))]) (fun _ => True) (fun k => by simp only [go_sem] <;> rfl) (by simp only [go_sem, List.length_map, hrl, List.drop_zero, hrt, hdh, List.length_map, hrl, List.drop_zero, hrt, Int.natCast_zero, dueTo, List.map_replicate, encInt] <;> rfl) ?_ (fun k hk hX => ?_)
          · trivial
          · skip
            have hdl := dueTo_len s (termsL s) lo hi k
            refine Exec.reg ?_
            refine Run.o1 (by simp only [go_sem, List.length_map, hrl, List.drop_zero, hrt, hdh, hdl] <;> rfl) ?_
            refine Run.nil ?_
            refine Exec.cndS (by simp only [go_sem, List.length_map, hrl, List.drop_zero, hrt, hdh, hdl] <;> rfl) (fun hb45 => ?_) (fun hb45 => ?_)
            · skip
              have hlt := lt_of_dec hb45
              have hrk := rws_get hll hlt
              have hrv := v.row _ (rowOf_mem hlt)
              have hbc : cntBk s.bs (rowOf s k) (endAt (termsL s) k).1 ≤ s.bs.length := List.countP_le_length
              refine Exec.skipS ?_
              refine Exec.blk ?_
              refine Exec.reg ?_
              iterate 2 (refine Run.o1 (by simp only [go_sem, List.length_map, hrl, List.drop_zero, hrt, hdh, hdl, hrk] <;> rfl) ?_)
              refine Run.nil ?_
              refine Exec.reg ?_
              iterate 5 (refine Run.o1 (by simp only [go_sem, List.length_map, hrl, List.drop_zero, hrt, hdh, hdl, hrk] <;> rfl) ?_)
              refine Run.o1 (by simp only [go_sem, List.length_map, hrl, List.drop_zero, hrt, hdh, hdl, hrk]; (try simp (disch := omega) only [if_pos]); (try simp only [go_sem, List.length_map, hrl, List.drop_zero, hrt, hdh, hdl, hrk])<;> rfl) ?_
              refine Run.o1 (by simp only [go_sem, List.length_map, hrl, List.drop_zero, hrt, hdh, hdl, hrk] <;> rfl) ?_
              refine Run.nil ?_
              refine Exec.opk 11 ?_
              refine OpenK.o1 (by simp only [go_sem, List.length_map, hrl, List.drop_zero, hrt, hdh, hdl, hrk] <;> rfl) ?_
              refine OpenK.o1 (by simp only [go_sem, List.length_map, hrl, List.drop_zero, hrt, hdh, hdl, hrk] <;> rfl) ?_
              refine OpenK.o1 (by simp only [go_sem, List.length_map, hrl, List.drop_zero, hrt, hdh, hdl, hrk] <;> rfl) ?_
              refine OpenK.o1 (by simp only [go_sem, List.length_map, hrl, List.drop_zero, hrt, hdh, hdl, hrk] <;> rfl) ?_
              refine OpenK.o1 (by simp only [go_sem, List.length_map, hrl, List.drop_zero, hrt, hdh, hdl, hrk] <;> rfl) ?_
              refine OpenK.o1 (by simp only [go_sem, List.length_map, hrl, List.drop_zero, hrt, hdh, hdl, hrk] <;> rfl) ?_
              refine OpenK.o1 (by simp only [go_sem, List.length_map, hrl, List.drop_zero, hrt, hdh, hdl, hrk] <;> rfl) ?_
              refine OpenK.o1 (by simp only [go_sem, List.length_map, hrl, List.drop_zero, hrt, hdh, hdl, hrk] <;> rfl) ?_
              refine OpenK.cal (c_term_within _ _ _) (by simp only [go_sem]) (by simp only [go_sem, List.length_map, hrl, List.drop_zero, hrt, hdh, hdl, hrk] <;> rfl) (by exact ⟨by first | exact WkR.pure rfl | exact WkR.nil _ | exact WkR.int (by first | omega | (simp; done) | (simp; omega)), by first | exact WkR.pure rfl | exact WkR.nil _ | exact WkR.int (by first | omega | (simp; done) | (simp; omega)), by first | exact WkR.pure rfl | exact WkR.nil _ | exact WkR.int (by first | omega | (simp; done) | (simp; omega)), trivial⟩) (fr0) (by simp only [go_sem, List.length_map, hrl, List.drop_zero, hrt, hdh, hdl, hrk] <;> rfl) (by simp only [go_sem] <;> rfl) (by simp only [go_sem] <;> rfl) ?_
              refine OpenK.nil (OpenE.fin (by decide +kernel) (by decide +kernel) ?_)
              refine Exec.cnd (by simp only [go_sem, List.length_map, hrl, List.drop_zero, hrt, hdh, hdl, hrk] <;> rfl) (fun hb61 => ?_) (fun hb61 => ?_)
              · skip
                have hyes : inB (endAt (termsL s) k).1 lo hi = true := by simpa using hb61
                have hc : (rowOf s k).cl.toNat < s.cs.length := by omega
                obtain ⟨x, hx⟩ := getElem_mem_of (l := dueTo s (termsL s) lo hi k) (i := (rowOf s k).cl.toNat) (by omega)
                have hxb := dueTo_bnd v (termsL s) lo hi k (by omega) x (List.mem_of_getElem? hx)
                have hsn : dueTo s (termsL s) lo hi (k + 1) = (dueTo s (termsL s) lo hi k).set (rowOf s k).cl.toNat (x + ((rowOf s k).to - (rowOf s k).fr + 1 - cntBk s.bs (rowOf s k) (endAt (termsL s) k).1)) := by rw [dueTo, if_pos hyes]; exact addAt_of hx
                refine Exec.opk1 33 ?_
                refine OpenK.o1 (by simp only [go_sem, List.length_map, hrl, List.drop_zero, hrt, hdh, hdl, hrk, hx, hsn, List.map_set] <;> rfl) ?_
                refine OpenK.o1 (by simp only [go_sem, List.length_map, hrl, List.drop_zero, hrt, hdh, hdl, hrk, hx, hsn, List.map_set] <;> rfl) ?_
                refine OpenK.o1 (by simp only [go_sem, List.length_map, hrl, List.drop_zero, hrt, hdh, hdl, hrk, hx, hsn, List.map_set] <;> rfl) ?_
                refine OpenK.o1 (by simp only [go_sem, List.length_map, hrl, List.drop_zero, hrt, hdh, hdl, hrk, hx, hsn, List.map_set] <;> rfl) ?_
                refine OpenK.o1 (by simp only [go_sem, List.length_map, hrl, List.drop_zero, hrt, hdh, hdl, hrk, hx, hsn, List.map_set] <;> rfl) ?_
                refine OpenK.o1 (by simp only [go_sem, List.length_map, hrl, List.drop_zero, hrt, hdh, hdl, hrk, hx, hsn, List.map_set] <;> rfl) ?_
                refine OpenK.o1 (by simp only [go_sem, List.length_map, hrl, List.drop_zero, hrt, hdh, hdl, hrk, hx, hsn, List.map_set]; (try simp (disch := omega) only [if_pos]); (try simp only [go_sem, List.length_map, hrl, List.drop_zero, hrt, hdh, hdl, hrk, hx, hsn, List.map_set])<;> rfl) ?_
                refine OpenK.o1 (by simp only [go_sem, List.length_map, hrl, List.drop_zero, hrt, hdh, hdl, hrk, hx, hsn, List.map_set] <;> rfl) ?_
                refine OpenK.o1 (by simp only [go_sem, List.length_map, hrl, List.drop_zero, hrt, hdh, hdl, hrk, hx, hsn, List.map_set] <;> rfl) ?_
                refine OpenK.o1 (by simp only [go_sem, List.length_map, hrl, List.drop_zero, hrt, hdh, hdl, hrk, hx, hsn, List.map_set] <;> rfl) ?_
                refine OpenK.o1 (by simp only [go_sem, List.length_map, hrl, List.drop_zero, hrt, hdh, hdl, hrk, hx, hsn, List.map_set] <;> rfl) ?_
                refine OpenK.o1 (by simp only [go_sem, List.length_map, hrl, List.drop_zero, hrt, hdh, hdl, hrk, hx, hsn, List.map_set] <;> rfl) ?_
                refine OpenK.o1 (by simp only [go_sem, List.length_map, hrl, List.drop_zero, hrt, hdh, hdl, hrk, hx, hsn, List.map_set] <;> rfl) ?_
                refine OpenK.o1 (by simp only [go_sem, List.length_map, hrl, List.drop_zero, hrt, hdh, hdl, hrk, hx, hsn, List.map_set] <;> rfl) ?_
                refine OpenK.o1 (by simp only [go_sem, List.length_map, hrl, List.drop_zero, hrt, hdh, hdl, hrk, hx, hsn, List.map_set] <;> rfl) ?_
                refine OpenK.o1 (by simp only [go_sem, List.length_map, hrl, List.drop_zero, hrt, hdh, hdl, hrk, hx, hsn, List.map_set] <;> rfl) ?_
                refine OpenK.o1 (by simp only [go_sem, List.length_map, hrl, List.drop_zero, hrt, hdh, hdl, hrk, hx, hsn, List.map_set] <;> rfl) ?_
                refine OpenK.o1 (by simp only [go_sem, List.length_map, hrl, List.drop_zero, hrt, hdh, hdl, hrk, hx, hsn, List.map_set] <;> rfl) ?_
                refine OpenK.o1 (by simp only [go_sem, List.length_map, hrl, List.drop_zero, hrt, hdh, hdl, hrk, hx, hsn, List.map_set]; (try simp (disch := omega) only [IntWalk.i64_in, IntWalk.u64_in, if_neg, if_pos])<;> rfl) ?_
                refine OpenK.o1 (by simp only [go_sem, List.length_map, hrl, List.drop_zero, hrt, hdh, hdl, hrk, hx, hsn, List.map_set]; (try simp (disch := omega) only [IntWalk.i64_in, IntWalk.u64_in, if_neg, if_pos])<;> rfl) ?_
                refine OpenK.o1 (by simp only [go_sem, List.length_map, hrl, List.drop_zero, hrt, hdh, hdl, hrk, hx, hsn, List.map_set] <;> rfl) ?_
                refine OpenK.o1 (by simp only [go_sem, List.length_map, hrl, List.drop_zero, hrt, hdh, hdl, hrk, hx, hsn, List.map_set] <;> rfl) ?_
                refine OpenK.o1 (by simp only [go_sem, List.length_map, hrl, List.drop_zero, hrt, hdh, hdl, hrk, hx, hsn, List.map_set] <;> rfl) ?_
                refine OpenK.o1 (by simp only [go_sem, List.length_map, hrl, List.drop_zero, hrt, hdh, hdl, hrk, hx, hsn, List.map_set] <;> rfl) ?_
                refine OpenK.o1 (by simp only [go_sem, List.length_map, hrl, List.drop_zero, hrt, hdh, hdl, hrk, hx, hsn, List.map_set] <;> rfl) ?_
                refine OpenK.o1 (by simp only [go_sem, List.length_map, hrl, List.drop_zero, hrt, hdh, hdl, hrk, hx, hsn, List.map_set] <;> rfl) ?_
                refine OpenK.lendO 901 43010 (flat_bk _) (by simp only [go_sem] <;> rfl) (c_brokenOf s.bs hnd (by omega) (rowOf s k, endAt (termsL s) k) (endAt (termsL s) k).1) (by simp only [go_sem]) (by simp only [go_sem] <;> rfl) (by simp only [go_sem] <;> rfl) (by simp only [go_sem] <;> rfl) (by exact ⟨by first | exact WkR.pure rfl | exact WkR.fptW rfl ⟨by first | exact .inl rfl | exact .inr rfl, by first | exact .inl rfl | exact .inr rfl, by first | exact .inl rfl | exact .inr rfl, by first | exact .inl rfl | exact .inr rfl, by first | exact .inl rfl | exact .inr rfl, by first | exact .inl rfl | exact .inr rfl, trivial⟩, by first | exact WkR.pure rfl | exact WkR.fptW rfl ⟨by first | exact .inl rfl | exact .inr rfl, by first | exact .inl rfl | exact .inr rfl, by first | exact .inl rfl | exact .inr rfl, by first | exact .inl rfl | exact .inr rfl, by first | exact .inl rfl | exact .inr rfl, by first | exact .inl rfl | exact .inr rfl, trivial⟩, by first | exact WkR.pure rfl | exact WkR.fptW rfl ⟨by first | exact .inl rfl | exact .inr rfl, by first | exact .inl rfl | exact .inr rfl, by first | exact .inl rfl | exact .inr rfl, by first | exact .inl rfl | exact .inr rfl, by first | exact .inl rfl | exact .inr rfl, by first | exact .inl rfl | exact .inr rfl, trivial⟩, trivial⟩) (by simp only [go_sem] <;> rfl) (by simp only [go_sem] <;> rfl) (by simp only [go_sem] <;> rfl) ?_
                refine OpenK.o1 (by simp only [go_sem, List.length_map, hrl, List.drop_zero, hrt, hdh, hdl, hrk, hx, hsn, List.map_set]; (try simp (disch := omega) only [IntWalk.i64_in, IntWalk.u64_in, if_neg, if_pos])<;> rfl) ?_
                refine OpenK.o1 (by simp only [go_sem, List.length_map, hrl, List.drop_zero, hrt, hdh, hdl, hrk, hx, hsn, List.map_set]; (try simp (disch := omega) only [IntWalk.i64_in, IntWalk.u64_in, if_neg, if_pos])<;> rfl) ?_
                refine OpenK.o1 (by simp only [go_sem, List.length_map, hrl, List.drop_zero, hrt, hdh, hdl, hrk, hx, hsn, List.map_set]; (try simp (disch := omega) only [if_pos]); (try simp only [go_sem, List.length_map, hrl, List.drop_zero, hrt, hdh, hdl, hrk, hx, hsn, List.map_set])<;> rfl) ?_
                refine OpenK.o1 (by simp only [go_sem, List.length_map, hrl, List.drop_zero, hrt, hdh, hdl, hrk, hx, hsn, List.map_set] <;> rfl) ?_
                refine OpenK.nil (OpenE.finT (by kernel_rfl) (by kernel_rfl) (by kernel_rfl) ?_)
                refine BlkK.nrm ?_
                refine Exec.reg1 ?_
                refine Run.o1 (by simp only [go_sem, List.length_map, hrl, List.drop_zero, hrt, hdh, hdl, hrk, hx, hsn, List.map_set]; (try simp (disch := omega) only [IntWalk.i64_in, IntWalk.u64_in, if_neg, if_pos])<;> rfl) ?_
                refine Run.o1 (by simp only [go_sem, List.length_map, hrl, List.drop_zero, hrt, hdh, hdl, hrk, hx, hsn, List.map_set] <;> rfl) ?_
                refine Run.nil ?_
                refine ForK.nxt ?_ ?_ ?_
                · omega
                · exact Ghost.kp [3, 6, 9, 43, 44] [3, 38, 43010] (by simp only [go_sem, List.length_map, hrl, List.drop_zero, hrt, hdh, hdl, hrk, hx, hsn, List.map_set]; first | ((repeat' (first | with_reducible_and_instances rfl | refine st_eq ?_ ?_ ?_ | refine ret_eq ?_ | refine tup_eq ?_ | refine tm_eq ?_ ?_ | refine arr_eq ?_ | refine cells_eq ?_ | refine val_eq ?_ | refine ls_eq ?_ ?_ | refine own_eq ?_ ?_ | refine sl_eq ?_ | refine b_eq ?_ | (refine i_eq ?_; omega))); done) | rfl)
                · trivial
              · skip
                have hno : inB (endAt (termsL s) k).1 lo hi = false := by simpa using hb61
                have hsn : dueTo s (termsL s) lo hi (k + 1) = dueTo s (termsL s) lo hi k := by rw [dueTo, if_neg (by rw [hno]; decide)]
                refine BlkK.nrm ?_
                refine Exec.reg1 ?_
                refine Run.o1 (by simp only [go_sem, List.length_map, hrl, List.drop_zero, hrt, hdh, hdl, hrk, hsn]; (try simp (disch := omega) only [IntWalk.i64_in, IntWalk.u64_in, if_neg, if_pos])<;> rfl) ?_
                refine Run.o1 (by simp only [go_sem, List.length_map, hrl, List.drop_zero, hrt, hdh, hdl, hrk, hsn] <;> rfl) ?_
                refine Run.nil ?_
                refine ForK.nxt ?_ ?_ ?_
                · omega
                · exact Ghost.kp [3, 6, 9, 43, 44] [3, 38, 43010] (by simp only [go_sem, List.length_map, hrl, List.drop_zero, hrt, hdh, hdl, hrk, hsn]; first | ((repeat' (first | with_reducible_and_instances rfl | refine st_eq ?_ ?_ ?_ | refine ret_eq ?_ | refine tup_eq ?_ | refine tm_eq ?_ ?_ | refine arr_eq ?_ | refine cells_eq ?_ | refine val_eq ?_ | refine ls_eq ?_ ?_ | refine own_eq ?_ ?_ | refine sl_eq ?_ | refine b_eq ?_ | (refine i_eq ?_; omega))); done) | rfl)
                · trivial
            · skip
              have hke : k = s.rs.length := by have := ge_of_dec hb45; omega
              subst hke
              refine Exec.exitS ?_
              refine ForK.ext ?_
              refine BlkK.hit ?_
              refine Exec.reg ?_
              iterate 3 (refine Run.o1 (by simp only [go_sem, List.length_map, hrl, List.drop_zero, hrt, hdh, hdl, hav, hao] <;> rfl) ?_)
              refine Run.nil ?_
              first
              | (refine Ends.fin [38] (rs := [.tmp 4, .tmp 5]) rfl (by simp only [go_sem, List.length_map, hrl, List.drop_zero, hrt, hdh, hdl, hav, hao] <;> rfl) ?_; simp only [go_sem, List.length_map, hrl, List.drop_zero, hrt, hdh, hdl, hav, hao] <;> first | rfl | ((repeat' (first | with_reducible_and_instances rfl | refine st_eq ?_ ?_ ?_ | refine ret_eq ?_ | refine tup_eq ?_ | refine tm_eq ?_ ?_ | refine arr_eq ?_ | refine cells_eq ?_ | refine val_eq ?_ | refine ls_eq ?_ ?_ | refine own_eq ?_ ?_ | refine sl_eq ?_ | refine b_eq ?_ | (refine i_eq ?_; omega))); done; done))
              | (refine Ends.fin [] (rs := [.tmp 4, .tmp 5]) rfl (by simp only [go_sem, List.length_map, hrl, List.drop_zero, hrt, hdh, hdl, hav, hao] <;> rfl) ?_; simp only [go_sem, List.length_map, hrl, List.drop_zero, hrt, hdh, hdl, hav, hao] <;> first | rfl | ((repeat' (first | with_reducible_and_instances rfl | refine st_eq ?_ ?_ ?_ | refine ret_eq ?_ | refine tup_eq ?_ | refine tm_eq ?_ ?_ | refine arr_eq ?_ | refine cells_eq ?_ | refine val_eq ?_ | refine ls_eq ?_ ?_ | refine own_eq ?_ ?_ | refine sl_eq ?_ | refine b_eq ?_ | (refine i_eq ?_; omega))); done; done))
      · skip
        have hdh : inB hi 0 131072 = false := by simpa using hdh
        obtain ⟨hav, hao⟩ := due_day hok ((dueErr_iff lo hi).2 fun h => by rw [hdh] at h; cases h.1)
        refine Exec.reg ?_
        iterate 2 (refine Run.o1 (by simp only [go_sem, List.length_map, hrl, List.drop_zero, hrt, hdh, hav, hao] <;> rfl) ?_)
        refine Run.c1 (c_term_isDay _) (by simp only [go_sem, List.length_map, hrl, List.drop_zero, hrt, hdh, hav, hao] <;> rfl) (by simp only [go_sem, List.length_map, hrl, List.drop_zero, hrt, hdh, hav, hao] <;> rfl) ?_
        iterate 2 (refine Run.o1 (by simp only [go_sem, List.length_map, hrl, List.drop_zero, hrt, hdh, hav, hao] <;> rfl) ?_)
        refine Run.s ?_
        refine Run.s ?_
        refine Run.s ?_
        refine Run.s ?_
        refine Run.s ?_
        refine Run.s ?_
        iterate 2 (refine Run.o1 (by simp only [go_sem, List.length_map, hrl, List.drop_zero, hrt, hdh, hav, hao] <;> rfl) ?_)
        refine Run.nil ?_
        refine Exec.cnd (by simp only [go_sem, List.length_map, hrl, List.drop_zero, hrt, hdh, hav, hao] <;> rfl) (fun hb22 => ?_) (fun hb22 => ?_)
        · skip
          refine Exec.reg ?_
          iterate 2 (refine Run.o1 (by simp only [go_sem, List.length_map, hrl, List.drop_zero, hrt, hdh, hav, hao] <;> rfl) ?_)
          refine Run.nil ?_
          refine BlkK.ret ?_
          first
          | (refine Ends.fin [38] (rs := [.tmp 4, .tmp 5]) rfl (by simp only [go_sem, List.length_map, hrl, List.drop_zero, hrt, hdh, hav, hao] <;> rfl) ?_; simp only [go_sem, List.length_map, hrl, List.drop_zero, hrt, hdh, hav, hao] <;> first | rfl | ((repeat' (first | with_reducible_and_instances rfl | refine st_eq ?_ ?_ ?_ | refine ret_eq ?_ | refine tup_eq ?_ | refine tm_eq ?_ ?_ | refine arr_eq ?_ | refine cells_eq ?_ | refine val_eq ?_ | refine ls_eq ?_ ?_ | refine own_eq ?_ ?_ | refine sl_eq ?_ | refine b_eq ?_ | (refine i_eq ?_; omega))); done; done))
          | (refine Ends.fin [] (rs := [.tmp 4, .tmp 5]) rfl (by simp only [go_sem, List.length_map, hrl, List.drop_zero, hrt, hdh, hav, hao] <;> rfl) ?_; simp only [go_sem, List.length_map, hrl, List.drop_zero, hrt, hdh, hav, hao] <;> first | rfl | ((repeat' (first | with_reducible_and_instances rfl | refine st_eq ?_ ?_ ?_ | refine ret_eq ?_ | refine tup_eq ?_ | refine tm_eq ?_ ?_ | refine arr_eq ?_ | refine cells_eq ?_ | refine val_eq ?_ | refine ls_eq ?_ ?_ | refine own_eq ?_ ?_ | refine sl_eq ?_ | refine b_eq ?_ | (refine i_eq ?_; omega))); done; done))
        · exact absurd hb22 (by simp)
  · skip
    obtain ⟨hov, hoo⟩ := open_bad (s := s) rfl hok
    have hoc := c_open s h
    rw [hov, hoo] at hoc
    obtain ⟨hav, hao⟩ := due_bad lo hi hok
    refine Exec.reg ?_
    refine Run.o1 (by simp only [go_sem, hok, hav, hao] <;> rfl) ?_
    refine Run.c1 (hoc) (by simp only [go_sem, hok, hav, hao] <;> rfl) (by simp only [go_sem, hok, hav, hao] <;> rfl) ?_
    iterate 7 (refine Run.o1 (by simp only [go_sem, hok, hav, hao] <;> rfl) ?_)
    refine Run.nil ?_
    refine Exec.blk ?_
    refine Exec.reg ?_
    iterate 3 (refine Run.o1 (by simp only [go_sem, hok, hav, hao] <;> rfl) ?_)
    refine Run.nil ?_
    refine Exec.cnd (by simp only [go_sem, hok, hav, hao] <;> rfl) (fun hb18 => ?_) (fun hb18 => ?_)
    · skip
      refine Exec.reg ?_
      iterate 3 (refine Run.o1 (by simp only [go_sem, hok, hav, hao] <;> rfl) ?_)
      refine Run.nil ?_
      refine BlkK.ret ?_
      first
      | (refine Ends.fin [38] (rs := [.tmp 4, .tmp 5]) rfl (by simp only [go_sem, hok, hav, hao] <;> rfl) ?_; simp only [go_sem, hok, hav, hao] <;> first | rfl | ((repeat' (first | with_reducible_and_instances rfl | refine st_eq ?_ ?_ ?_ | refine ret_eq ?_ | refine tup_eq ?_ | refine tm_eq ?_ ?_ | refine arr_eq ?_ | refine cells_eq ?_ | refine val_eq ?_ | refine ls_eq ?_ ?_ | refine own_eq ?_ ?_ | refine sl_eq ?_ | refine b_eq ?_ | (refine i_eq ?_; omega))); done; done))
      | (refine Ends.fin [] (rs := [.tmp 4, .tmp 5]) rfl (by simp only [go_sem, hok, hav, hao] <;> rfl) ?_; simp only [go_sem, hok, hav, hao] <;> first | rfl | ((repeat' (first | with_reducible_and_instances rfl | refine st_eq ?_ ?_ ?_ | refine ret_eq ?_ | refine tup_eq ?_ | refine tm_eq ?_ ?_ | refine arr_eq ?_ | refine cells_eq ?_ | refine val_eq ?_ | refine ls_eq ?_ ?_ | refine own_eq ?_ ?_ | refine sl_eq ?_ | refine b_eq ?_ | (refine i_eq ?_; omega))); done; done))
    · skip
      exact absurd (int_eq hb18) hok

end Go.Mw
namespace Go.Mw
open Go.Proofs
open Go.Te
/-- The document's example. -/
def smp : Stk := ⟨[⟨1000, 1, 300, 1⟩, ⟨500, 2, 100, 0⟩], [⟨1, 100, 0, 10⟩, ⟨101, 150, 1, 20⟩, ⟨201, 210, 0, 400⟩], [⟨0, 900, [5, 50, 205], 1⟩, ⟨1, 300, [110, 120], 2⟩, ⟨0, 1300, [60], 0⟩], [⟨50, 1000⟩, ⟨130, 200⟩]⟩
def smp2 : Stk := { smp with ps := [⟨0, 900, [5, 50, 205], 1⟩, ⟨1, 300, [110, 130], 2⟩, ⟨0, 1300, [60], 0⟩] }
theorem smp_small : Small smp := ⟨by decide, by decide, by decide, by decide, by decide⟩
theorem smp2_small : Small smp2 := ⟨by decide, by decide, by decide, by decide, by decide⟩
abbrev smpV : AV := .val true [.own 3 0 2 2, .own 7 0 3 3, .csl 14 0 3, .own 17 0 2 2]
abbrev smpO : List (Nat × AO) := [(3, .arr 50 4 (smp.cs.map encCls)), (7, .arr 42 4 (smp.rs.map encSl)), (8, .arr 3 1 ([5, 50, 205].map encInt)), (10, .arr 3 1 ([110, 120].map encInt)), (12, .arr 3 1 ([60].map encInt)), (14, .cells [.d (.i 0), .d (.i 900), .own 8 0 3 3, .d (.i 1), .d (.i 1), .d (.i 300), .own 10 0 2 2, .d (.i 2), .d (.i 0), .d (.i 1300), .own 12 0 1 1, .d (.i 0)]), (17, .arr 43 2 (smp.bs.map encBr))]
set_option maxRecDepth 20000 in
set_option maxHeartbeats 16000000 in
/-- meterworks/meterworkslaw07.sample -/
theorem c_law_sample : Contract Try.prog 23 [] smpV smpO := by
  refine con_of follows_mixed Try.func23 rfl (by simp only [List.length_cons, List.length_nil, Try.ntmps23]; omega) (by kernel_rfl) rfl ?_
  refine Exec.reg ?_
  refine Run.o1 (by simp only [go_sem, smp] <;> rfl) ?_
  refine Run.nil ?_
  refine Exec.reg ?_
  iterate 19 (refine Run.o1 (by simp only [go_sem, smp] <;> rfl) ?_)
  refine Run.nil ?_
  exact Ends.fin [3, 7, 8, 10, 12, 14, 17] (rs := [.cell 0 27]) rfl (by simp only [go_sem, smp] <;> rfl) (by simp only [go_sem, smp] <;> first | rfl | ((repeat' (first | with_reducible_and_instances rfl | refine st_eq ?_ ?_ ?_ | refine ret_eq ?_ | refine tup_eq ?_ | refine tm_eq ?_ ?_ | refine arr_eq ?_ | refine cells_eq ?_ | refine val_eq ?_ | refine ls_eq ?_ ?_ | refine own_eq ?_ ?_ | refine sl_eq ?_ | refine b_eq ?_ | (refine i_eq ?_; omega))); done))

theorem w_check : (termsR smp).2 = (0, 0) := by decide +kernel
theorem w_check2 : (termsR smp2).2 = (1, 6) := by decide +kernel
theorem w_end7 : endV smp 7 = tupI [1310, 1, 0] := by
  have h : endR smp 7 = (1310, 1, 0) := by decide +kernel
  unfold endV; rw [h]; rfl
theorem w_end110 : endV smp 110 = tupI [301, 0, 0] := by
  have h : endR smp 110 = (301, 0, 0) := by decide +kernel
  unfold endV; rw [h]; rfl
theorem w_stat : statV smp 7 1310 = tupI [2, 0] := by
  have h : statR smp 7 1310 = (2, 0) := by decide +kernel
  unfold statV; rw [h]; rfl
abbrev wC : List (Nat × AO) := [(9, .cells [.d (.i 0), .d (.i 109), .d (.i 49), .d (.i 2)])]
abbrev wD : List (Nat × AO) := [(38, .arr 3 1 [[.i 99], [.i 49]])]
theorem w_count : countV smp 1000 = .tup [(false, [.csl 9 0 4]), (false, [.d (.i 0)])] ∧ countO smp 1000 = wC := by
  obtain ⟨h1, h2⟩ := count_good (s := smp) (d := 1000) (by decide +kernel) (by decide +kernel)
  refine ⟨h1, h2.trans ?_⟩
  show [(9, AO.cells [.d (.i (cq smp (termsL smp) 1000 smp.rs.length 0)), .d (.i (cq smp (termsL smp) 1000 smp.rs.length 1)), .d (.i (cq smp (termsL smp) 1000 smp.rs.length 2)), .d (.i (cq smp (termsL smp) 1000 smp.rs.length 3))])] = wC
  have a0 : cq smp (termsL smp) 1000 smp.rs.length 0 = 0 := by decide +kernel
  have a1 : cq smp (termsL smp) 1000 smp.rs.length 1 = 109 := by decide +kernel
  have a2 : cq smp (termsL smp) 1000 smp.rs.length 2 = 49 := by decide +kernel
  have a3 : cq smp (termsL smp) 1000 smp.rs.length 3 = 2 := by decide +kernel
  rw [a0, a1, a2, a3]
theorem w_due : dueV smp 300 1310 = .tup [(false, [.own 38 0 2 2]), (false, [.d (.i 0)])] ∧ dueO smp 300 1310 = wD := by
  obtain ⟨h1, h2⟩ := due_good (s := smp) (lo := 300) (hi := 1310) (by decide +kernel) (by decide +kernel)
  refine ⟨h1, h2.trans ?_⟩
  have a : dueTo smp (termsL smp) 300 1310 smp.rs.length = [99, 49] := by decide +kernel
  rw [a]; rfl
theorem k_check : Contract Try.prog 22 [stkV smp] (tupI [0, 0]) [] := by have := c_term_Check smp smp_small; rw [w_check] at this; exact this
theorem k_check2 : Contract Try.prog 22 [stkV smp2] (tupI [1, 6]) [] := by have := c_term_Check smp2 smp2_small; rw [w_check2] at this; exact this
theorem k_end7 : Contract Try.prog 17 [stkV smp, .int 7] (tupI [1310, 1, 0]) [] := by have := c_term_End smp smp_small 7; rw [w_end7] at this; exact this
theorem k_end110 : Contract Try.prog 17 [stkV smp, .int 110] (tupI [301, 0, 0]) [] := by have := c_term_End smp smp_small 110; rw [w_end110] at this; exact this
theorem k_stat : Contract Try.prog 18 [stkV smp, .int 7, .int 1310] (tupI [2, 0]) [] := by have := c_term_Status smp smp_small 7 1310; rw [w_stat] at this; exact this
theorem k_count : Contract Try.prog 10 [stkV smp, .int 1000] (.tup [(false, [.csl 9 0 4]), (false, [.d (.i 0)])]) wC := by have := c_term_Count smp smp_small 1000; rw [w_count.1, w_count.2] at this; exact this
theorem k_due : Contract Try.prog 12 [stkV smp, spanV 300 1310] (.tup [(false, [.own 38 0 2 2]), (false, [.d (.i 0)])]) wD := by have := c_term_Due smp smp_small 300 1310; rw [w_due.1, w_due.2] at this; exact this
set_option maxRecDepth 20000 in
set_option maxHeartbeats 64000000 in
/-- meterworks/meterworkslaw07.awake -/
theorem c_law_awake : Contract Try.prog 9 [] (.bool true) [] := by
  refine con_of follows_mixed Try.func9 rfl (by simp only [List.length_cons, List.length_nil, Try.ntmps9]; omega) (by kernel_rfl) rfl ?_
  refine Exec.reg ?_
  refine Run.o1 (by simp only [go_sem, smp, smp2] <;> rfl) ?_
  refine Run.nil ?_
  refine Exec.reg ?_
  refine Run.cal (c_law_sample) (by simp only [go_sem]) (by simp only [go_sem, smp, smp2] <;> rfl) (by exact trivial) (fun _ _ _ => rfl) (by simp only [go_sem, smp, smp2] <;> rfl) ?_
  iterate 2 (refine Run.o1 (by simp only [go_sem, smp, smp2] <;> rfl) ?_)
  refine Run.nil ?_
  refine Exec.reg ?_
  refine Run.o1 (by simp only [go_sem, smp, smp2] <;> rfl) ?_
  refine Run.calT (by simp only [go_sem] <;> rfl) (k_check) (by simp only [go_sem]) (by simp only [go_sem] <;> rfl) (by rfl) (by rfl) (by intro q x h; cases h) (by simp only [go_sem] <;> rfl) ?_
  iterate 5 (refine Run.o1 (by simp only [go_sem, smp, smp2] <;> rfl) ?_)
  refine Run.nil ?_
  refine Exec.reg ?_
  refine Run.o1 (by simp only [go_sem, smp, smp2] <;> rfl) ?_
  refine Run.calT (by simp only [go_sem] <;> rfl) (k_end7) (by simp only [go_sem]) (by simp only [go_sem] <;> rfl) (by rfl) (by rfl) (by intro q x h; cases h) (by simp only [go_sem] <;> rfl) ?_
  iterate 7 (refine Run.o1 (by simp only [go_sem, smp, smp2] <;> rfl) ?_)
  refine Run.nil ?_
  refine Exec.reg ?_
  refine Run.o1 (by simp only [go_sem, smp, smp2] <;> rfl) ?_
  refine Run.calT (by simp only [go_sem] <;> rfl) (k_end110) (by simp only [go_sem]) (by simp only [go_sem] <;> rfl) (by rfl) (by rfl) (by intro q x h; cases h) (by simp only [go_sem] <;> rfl) ?_
  iterate 7 (refine Run.o1 (by simp only [go_sem, smp, smp2] <;> rfl) ?_)
  refine Run.nil ?_
  refine Exec.reg ?_
  refine Run.o1 (by simp only [go_sem, smp, smp2] <;> rfl) ?_
  refine Run.calT (by simp only [go_sem] <;> rfl) (k_stat) (by simp only [go_sem]) (by simp only [go_sem] <;> rfl) (by rfl) (by rfl) (by intro q x h; cases h) (by simp only [go_sem] <;> rfl) ?_
  iterate 5 (refine Run.o1 (by simp only [go_sem, smp, smp2] <;> rfl) ?_)
  refine Run.nil ?_
  refine Exec.reg ?_
  refine Run.o1 (by simp only [go_sem, smp, smp2] <;> rfl) ?_
  refine Run.calT (by simp only [go_sem] <;> rfl) (k_count) (by simp only [go_sem]) (by simp only [go_sem] <;> rfl) (by rfl) (by rfl) (by intro q x h; simp only [look_cons, look_nil] at h; split at h; (rename_i hq; have hq := hq; subst hq; simp only [go_sem] <;> rfl); cases h) (by simp only [go_sem] <;> rfl) ?_
  iterate 5 (refine Run.o1 (by simp only [go_sem, smp, smp2] <;> rfl) ?_)
  refine Run.nil ?_
  refine Exec.reg ?_
  iterate 2 (refine Run.o1 (by simp only [go_sem, smp, smp2] <;> rfl) ?_)
  refine Run.calT (by simp only [go_sem] <;> rfl) (k_due) (by simp only [go_sem]) (by simp only [go_sem] <;> rfl) (by rfl) (by rfl) (by intro q x h; simp only [look_cons, look_nil] at h; split at h; (rename_i hq; have hq := hq; subst hq; simp only [go_sem] <;> rfl); cases h) (by simp only [go_sem] <;> rfl) ?_
  iterate 5 (refine Run.o1 (by simp only [go_sem, smp, smp2] <;> rfl) ?_)
  refine Run.nil ?_
  refine Exec.reg ?_
  iterate 2 (refine Run.o1 (by simp only [go_sem, smp, smp2] <;> rfl) ?_)
  refine Run.o1 (by simp only [go_sem, smp, smp2]; (try simp (disch := omega) only [if_pos]); (try simp only [go_sem, smp, smp2])<;> rfl) ?_
  iterate 2 (refine Run.o1 (by simp only [go_sem, smp, smp2] <;> rfl) ?_)
  refine Run.o1 (by simp only [go_sem, smp, smp2]; (try simp (disch := omega) only [if_pos]); (try simp only [go_sem, smp, smp2])<;> rfl) ?_
  refine Run.o1 (by simp only [go_sem, smp, smp2] <;> rfl) ?_
  refine Run.nil ?_
  refine Exec.reg ?_
  refine Run.o1 (by simp only [go_sem, smp, smp2] <;> rfl) ?_
  refine Run.calT (by simp only [go_sem] <;> rfl) (k_check2) (by simp only [go_sem]) (by simp only [go_sem] <;> rfl) (by rfl) (by rfl) (by intro q x h; cases h) (by simp only [go_sem] <;> rfl) ?_
  iterate 5 (refine Run.o1 (by simp only [go_sem, smp, smp2] <;> rfl) ?_)
  refine Run.nil ?_
  refine Exec.reg ?_
  refine Run.frs 44009 (by simp only [go_sem] <;> rfl) ?_
  refine Run.frz 50038 (by simp only [go_sem] <;> rfl) ?_
  iterate 3 (refine Run.o1 (by simp only [go_sem, smp, smp2] <;> rfl) ?_)
  refine Run.y1 (by simp only [go_sem, smp, smp2] <;> rfl) ?_
  refine Run.y1 (by simp only [go_sem, smp, smp2] <;> rfl) ?_
  iterate 2 (refine Run.o1 (by simp only [go_sem, smp, smp2] <;> rfl) ?_)
  refine Run.y1 (by simp only [go_sem, smp, smp2] <;> rfl) ?_
  refine Run.y1 (by simp only [go_sem, smp, smp2] <;> rfl) ?_
  iterate 2 (refine Run.o1 (by simp only [go_sem, smp, smp2] <;> rfl) ?_)
  refine Run.y1 (by simp only [go_sem, smp, smp2] <;> rfl) ?_
  refine Run.y1 (by simp only [go_sem, smp, smp2] <;> rfl) ?_
  iterate 2 (refine Run.o1 (by simp only [go_sem, smp, smp2] <;> rfl) ?_)
  refine Run.y1 (by simp only [go_sem, smp, smp2] <;> rfl) ?_
  refine Run.y1 (by simp only [go_sem, smp, smp2] <;> rfl) ?_
  iterate 2 (refine Run.o1 (by simp only [go_sem, smp, smp2] <;> rfl) ?_)
  refine Run.y1 (by simp only [go_sem, smp, smp2] <;> rfl) ?_
  refine Run.y1 (by simp only [go_sem, smp, smp2] <;> rfl) ?_
  iterate 2 (refine Run.o1 (by simp only [go_sem, smp, smp2] <;> rfl) ?_)
  refine Run.y1 (by simp only [go_sem, smp, smp2] <;> rfl) ?_
  refine Run.y1 (by simp only [go_sem, smp, smp2] <;> rfl) ?_
  iterate 2 (refine Run.o1 (by simp only [go_sem, smp, smp2] <;> rfl) ?_)
  refine Run.y1 (by simp only [go_sem, smp, smp2] <;> rfl) ?_
  refine Run.y1 (by simp only [go_sem, smp, smp2] <;> rfl) ?_
  iterate 2 (refine Run.o1 (by simp only [go_sem, smp, smp2] <;> rfl) ?_)
  refine Run.y1 (by simp only [go_sem, smp, smp2] <;> rfl) ?_
  refine Run.y1 (by simp only [go_sem, smp, smp2] <;> rfl) ?_
  iterate 2 (refine Run.o1 (by simp only [go_sem, smp, smp2] <;> rfl) ?_)
  refine Run.y1 (by simp only [go_sem, smp, smp2] <;> rfl) ?_
  refine Run.y1 (by simp only [go_sem, smp, smp2] <;> rfl) ?_
  iterate 2 (refine Run.o1 (by simp only [go_sem, smp, smp2] <;> rfl) ?_)
  refine Run.y1 (by simp only [go_sem, smp, smp2] <;> rfl) ?_
  refine Run.y1 (by simp only [go_sem, smp, smp2] <;> rfl) ?_
  refine Run.frz 103 (by simp only [go_sem] <;> rfl) ?_
  refine Run.calw (by simp only [go_sem] <;> rfl) (c_meterworksref07_Ints [0, 109, 49, 2] [0, 109, 49, 2] (by decide) (by decide)) (by simp only [go_sem]) (by simp only [go_sem, smp, smp2] <;> rfl) (by simp only [go_sem, smp, smp2] <;> rfl) (by exact ⟨by first | exact WkR.pure rfl | exact WkR.nil _ | exact WkR.int (by first | omega | (simp; done) | (simp; omega)), by first | exact WkR.pure rfl | exact WkR.nil _ | exact WkR.int (by first | omega | (simp; done) | (simp; omega)), trivial⟩) (fr0) (by simp only [go_sem, smp, smp2] <;> rfl) ?_
  iterate 2 (refine Run.o1 (by simp only [go_sem, smp, smp2] <;> rfl) ?_)
  refine Run.y1 (by simp only [go_sem, smp, smp2] <;> rfl) ?_
  refine Run.y1 (by simp only [go_sem, smp, smp2] <;> rfl) ?_
  iterate 2 (refine Run.o1 (by simp only [go_sem, smp, smp2] <;> rfl) ?_)
  refine Run.y1 (by simp only [go_sem, smp, smp2] <;> rfl) ?_
  refine Run.y1 (by simp only [go_sem, smp, smp2] <;> rfl) ?_
  refine Run.frz 112 (by simp only [go_sem] <;> rfl) ?_
  refine Run.calw (by simp only [go_sem] <;> rfl) (c_meterworksref07_Ints [99, 49] [99, 49] (by decide) (by decide)) (by simp only [go_sem]) (by simp only [go_sem, smp, smp2] <;> rfl) (by simp only [go_sem, smp, smp2] <;> rfl) (by exact ⟨by first | exact WkR.pure rfl | exact WkR.nil _ | exact WkR.int (by first | omega | (simp; done) | (simp; omega)), by first | exact WkR.pure rfl | exact WkR.nil _ | exact WkR.int (by first | omega | (simp; done) | (simp; omega)), trivial⟩) (fr0) (by simp only [go_sem, smp, smp2] <;> rfl) ?_
  iterate 2 (refine Run.o1 (by simp only [go_sem, smp, smp2] <;> rfl) ?_)
  refine Run.y1 (by simp only [go_sem, smp, smp2] <;> rfl) ?_
  refine Run.y1 (by simp only [go_sem, smp, smp2] <;> rfl) ?_
  iterate 2 (refine Run.o1 (by simp only [go_sem, smp, smp2] <;> rfl) ?_)
  refine Run.y1 (by simp only [go_sem, smp, smp2] <;> rfl) ?_
  refine Run.y1 (by simp only [go_sem, smp, smp2] <;> rfl) ?_
  iterate 2 (refine Run.o1 (by simp only [go_sem, smp, smp2] <;> rfl) ?_)
  refine Run.y1 (by simp only [go_sem, smp, smp2] <;> rfl) ?_
  refine Run.y1 (by simp only [go_sem, smp, smp2] <;> rfl) ?_
  iterate 2 (refine Run.o1 (by simp only [go_sem, smp, smp2] <;> rfl) ?_)
  refine Run.nil ?_
  exact Ends.fin [] (rs := [.tmp 0]) rfl (by simp only [go_sem, smp, smp2] <;> rfl) (by simp only [go_sem, smp, smp2] <;> first | rfl | ((repeat' (first | with_reducible_and_instances rfl | refine st_eq ?_ ?_ ?_ | refine ret_eq ?_ | refine tup_eq ?_ | refine tm_eq ?_ ?_ | refine arr_eq ?_ | refine cells_eq ?_ | refine val_eq ?_ | refine ls_eq ?_ ?_ | refine own_eq ?_ ?_ | refine sl_eq ?_ | refine b_eq ?_ | (refine i_eq ?_; omega))); done))

def sumN (s : Stk) : Nat → Int
  | 0 => 0
  | k + 1 => sumN s k + (rowOf s k).to - (rowOf s k).fr + 1
def bigB (s : Stk) : Bool := decide (10 < (s.cs.length : Int)) || decide (30 < (s.rs.length : Int)) || decide (16 < (s.ps.length : Int)) || decide (30 < (s.bs.length : Int))
def longP (p : Pf) : Bool := decide (30 < (p.seals.length : Int))
def largeB (s : Stk) (n : Int) : Bool := bigB s || s.ps.any longP || (stockB s && decide (n < sumN s s.rs.length))
theorem sumN_bnd {s : Stk} (v : Val s) : ∀ k, k ≤ s.rs.length → 0 ≤ sumN s k ∧ sumN s k ≤ 1000000 * k
  | 0, _ => by simp [sumN]
  | k + 1, h => by
    have ih := sumN_bnd v k (by omega)
    have hr := v.row _ (rowOf_mem (s := s) (i := k) (by omega))
    rw [sumN]; omega
theorem snoc_take {α : Type} {l : List α} {k : Nat} {x : α} (h : l[k]? = some x) : l.take (k + 1) = l.take k ++ [x] := by rw [List.take_add_one, h]; rfl
theorem big_ps {s : Stk} (h1 : bigB s = false) : s.cs.length ≤ 10 ∧ s.rs.length ≤ 30 ∧ s.ps.length ≤ 16 ∧ s.bs.length ≤ 30 := by
  unfold bigB at h1
  simp only [Bool.or_eq_false_iff, decide_eq_false_iff_not] at h1
  omega
theorem small_of {s : Stk} (h1 : bigB s = false) (h2 : s.ps.any longP = false) : Small s := by
  unfold bigB at h1
  simp only [Bool.or_eq_false_iff, decide_eq_false_iff_not] at h1
  refine ⟨by omega, by omega, by omega, by omega, fun p hp => ?_⟩
  rw [List.any_eq_false] at h2
  have := h2 p hp
  unfold longP at this
  simp only [decide_eq_true_eq] at this
  omega
set_option maxRecDepth 20000 in
set_option maxHeartbeats 8000000 in
/-- meterworks/meterworkslaw07.large -/
theorem c_law_large (s : Stk) (n : Int) (hn : 0 ≤ n) : Contract Try.prog 8 [stkV s, .int n] (.bool (largeB s n)) [] := by
  refine con_of follows_mixed Try.func8 rfl (by simp only [List.length_cons, List.length_nil, Try.ntmps8]; omega) (by kernel_rfl) rfl ?_
  refine Exec.reg ?_
  iterate 2 (refine Run.o ?_)
  refine Run.nil ?_
  refine Exec.assocS ?_
  refine Exec.reg ?_
  iterate 5 (refine Run.o ?_)
  refine Run.gop (by simp only [go_sem] <;> rfl) (by simp only [go_sem] <;> rfl) (by simp only [go_sem] <;> rfl) ?_
  refine Run.gop (by simp only [go_sem] <;> rfl) (by simp only [go_sem] <;> rfl) (by simp only [go_sem] <;> rfl) ?_
  refine Run.gop (by simp only [go_sem] <;> rfl) (by simp only [go_sem] <;> rfl) (by simp only [go_sem] <;> rfl) ?_
  refine Run.gop (by simp only [go_sem] <;> rfl) (by simp only [go_sem] <;> rfl) (by simp only [go_sem] <;> rfl) ?_
  iterate 2 (refine Run.o ?_)
  refine Run.gop (by simp only [go_sem] <;> rfl) (by simp only [go_sem] <;> rfl) (by simp only [go_sem] <;> rfl) ?_
  refine Run.gop (by simp only [go_sem] <;> rfl) (by simp only [go_sem] <;> rfl) (by simp only [go_sem] <;> rfl) ?_
  refine Run.gop (by simp only [go_sem] <;> rfl) (by simp only [go_sem] <;> rfl) (by simp only [go_sem] <;> rfl) ?_
  refine Run.gop (by simp only [go_sem] <;> rfl) (by simp only [go_sem] <;> rfl) (by simp only [go_sem] <;> rfl) ?_
  iterate 2 (refine Run.o ?_)
  refine Run.gop (by simp only [go_sem] <;> rfl) (by simp only [go_sem] <;> rfl) (by simp only [go_sem] <;> rfl) ?_
  refine Run.gop (by simp only [go_sem] <;> rfl) (by simp only [go_sem] <;> rfl) (by simp only [go_sem] <;> rfl) ?_
  refine Run.gop (by simp only [go_sem] <;> rfl) (by simp only [go_sem] <;> rfl) (by simp only [go_sem] <;> rfl) ?_
  refine Run.gop (by simp only [go_sem] <;> rfl) (by simp only [go_sem] <;> rfl) (by simp only [go_sem] <;> rfl) ?_
  refine Run.o ?_
  refine Run.nil ?_
  refine Exec.cndS (by simp only [go_sem] <;> rfl) (fun hb29 => ?_) (fun hb29 => ?_)
  · skip
    have hbig : bigB s = true := by unfold bigB; simpa [decide_eq_true_eq] using hb29
    have hres : largeB s n = true := by unfold largeB; rw [hbig]; simp
    refine Exec.assocS ?_
    refine Exec.reg ?_
    refine Run.o1 (by simp only [go_sem, hres] <;> rfl) ?_
    refine Run.nil ?_
    refine Exec.retS ?_
    exact Ends.fin [] (rs := [.tmp 4]) rfl (by simp only [go_sem, hres] <;> rfl) (by simp only [go_sem, hres] <;> first | rfl | ((repeat' (first | with_reducible_and_instances rfl | refine st_eq ?_ ?_ ?_ | refine ret_eq ?_ | refine tup_eq ?_ | refine tm_eq ?_ ?_ | refine arr_eq ?_ | refine cells_eq ?_ | refine val_eq ?_ | refine ls_eq ?_ ?_ | refine own_eq ?_ ?_ | refine sl_eq ?_ | refine b_eq ?_ | (refine i_eq ?_; omega))); done))
  · skip
    have hbig : bigB s = false := by unfold bigB; simpa using hb29
    have hbp := big_ps hbig
    refine Exec.skipS ?_
    refine Exec.assocS ?_
    refine Exec.reg ?_
    refine Run.o ?_
    refine Run.nil ?_
    refine Exec.blk ?_
    refine Exec.forA [1, 2, 5] [2] (s.ps.length) (fun k => [.slot 5 (.int k)]) (fun k => (s.ps.take k).any longP = false) (fun k => by simp only [go_sem] <;> rfl) (by simp only [go_sem] <;> rfl) ?_ (fun k hk hX => ?_)
    · rfl
    · skip
      refine Exec.assocS ?_
      refine Exec.reg ?_
      iterate 5 (refine Run.o ?_)
      refine Run.nil ?_
      refine Exec.cndS (by simp only [go_sem] <;> rfl) (fun hb34 => ?_) (fun hb34 => ?_)
      · skip
        have hlt := lt_of_dec hb34
        obtain ⟨p, hp⟩ : ∃ p, s.ps[k]? = some p := ⟨_, List.getElem?_eq_getElem hlt⟩
        refine Exec.skipS ?_
        refine Exec.blk ?_
        refine Exec.reg ?_
        iterate 3 (refine Run.o1 (by simp only [go_sem, hp] <;> rfl) ?_)
        refine Run.o1 (by simp only [go_sem, hp]; (try simp (disch := omega) only [if_pos]); (try simp only [go_sem, hp])<;> rfl) ?_
        iterate 4 (refine Run.o1 (by simp only [go_sem, hp] <;> rfl) ?_)
        refine Run.nil ?_
        refine Exec.cnd (by simp only [go_sem, hp] <;> rfl) (fun hb44 => ?_) (fun hb44 => ?_)
        · skip
          have hl : longP p = true := by unfold longP; simpa using hb44
          have hany : s.ps.any longP = true := List.any_eq_true.2 ⟨p, List.mem_of_getElem? hp, hl⟩
          have hres : largeB s n = true := by unfold largeB; rw [hany]; simp
          refine Exec.reg ?_
          refine Run.o1 (by simp only [go_sem, hp, hres] <;> rfl) ?_
          refine Run.nil ?_
          refine BlkK.ret ?_
          refine ForK.ret ?_
          refine BlkK.ret ?_
          exact Ends.fin [] (rs := [.tmp 4]) rfl (by simp only [go_sem, hp, hres] <;> rfl) (by simp only [go_sem, hp, hres] <;> first | rfl | ((repeat' (first | with_reducible_and_instances rfl | refine st_eq ?_ ?_ ?_ | refine ret_eq ?_ | refine tup_eq ?_ | refine tm_eq ?_ ?_ | refine arr_eq ?_ | refine cells_eq ?_ | refine val_eq ?_ | refine ls_eq ?_ ?_ | refine own_eq ?_ ?_ | refine sl_eq ?_ | refine b_eq ?_ | (refine i_eq ?_; omega))); done))
        · skip
          refine BlkK.nrm ?_
          refine Exec.reg1 ?_
          refine Run.o1 (by simp only [go_sem, hp] <;> rfl) ?_
          refine Run.o1 (by simp only [go_sem, hp]; (try simp (disch := omega) only [IntWalk.i64_in, IntWalk.u64_in, if_neg, if_pos])<;> rfl) ?_
          refine Run.o1 (by simp only [go_sem, hp] <;> rfl) ?_
          refine Run.nil ?_
          refine ForK.nxt ?_ ?_ ?_
          · omega
          · exact Ghost.kp [1, 2, 5] [2] (by simp only [go_sem, hp]; first | ((repeat' (first | with_reducible_and_instances rfl | refine st_eq ?_ ?_ ?_ | refine ret_eq ?_ | refine tup_eq ?_ | refine tm_eq ?_ ?_ | refine arr_eq ?_ | refine cells_eq ?_ | refine val_eq ?_ | refine ls_eq ?_ ?_ | refine own_eq ?_ ?_ | refine sl_eq ?_ | refine b_eq ?_ | (refine i_eq ?_; omega))); done) | rfl)
          · rw [snoc_take hp, List.any_append, hX, List.any_cons, List.any_nil]; unfold longP; simpa using hb44
      · skip
        have hke : k = s.ps.length := by have := ge_of_dec hb34; omega
        subst hke
        rw [List.take_length] at hX
        have hsm := small_of hbig hX
        have hrl := hsm.rs
        have hL : largeB s n = (stockB s && decide (n < sumN s s.rs.length)) := by unfold largeB; rw [hbig, hX]; simp
        refine Exec.exitS ?_
        refine ForK.ext ?_
        refine BlkK.hit ?_
        refine Exec.reg ?_
        refine Run.o ?_
        refine Run.nil ?_
        refine Exec.assocS ?_
        refine Exec.reg ?_
        refine Run.o ?_
        refine Run.nil ?_
        refine Exec.blk ?_
        refine Exec.forA [1, 2, 6, 7] [2] (s.rs.length) (fun j => [.slot 7 (.int j), .slot 6 (.int (sumN s j))]) (fun j => stockB s = true ∨ j = 0) (fun j => by simp only [go_sem] <;> rfl) (by simp only [go_sem, sumN] <;> rfl) ?_ (fun j hj Xj => ?_)
        · exact .inr rfl
        · skip
          refine Exec.assocS ?_
          by_cases hkl : j < s.rs.length
          · skip
            have g1 : decide ((j : Int) < (s.rs.length : Int)) = true := decide_eq_true (by omega)
            refine Exec.reg ?_
            iterate 6 (refine Run.o1 (by simp only [go_sem, g1] <;> rfl) ?_)
            refine Run.y1 (by simp only [go_sem, g1] <;> rfl) ?_
            refine Run.calw (by simp only [go_sem] <;> rfl) (c_meterworksref07_Stock s hsm) (by simp only [go_sem]) (by simp only [go_sem, g1] <;> rfl) (by simp only [go_sem, g1] <;> rfl) (by exact ⟨by first | exact WkR.pure rfl | exact WkR.nil _ | exact WkR.int (by first | omega | (simp; done) | (simp; omega)), trivial⟩) (fr0) (by simp only [go_sem, g1] <;> rfl) ?_
            refine Run.o1 (by simp only [go_sem, g1] <;> rfl) ?_
            refine Run.nil ?_
            refine Exec.cndS (by simp only [go_sem, g1] <;> rfl) (fun hb53 => ?_) (fun hb53 => ?_)
            · skip
              have hst : stockB s = true := by simpa using hb53
              have v := stock_val hst
              have hsb := sumN_bnd v j (by omega)
              have hrk := rowOf_get hkl
              have hrv := v.row _ (rowOf_mem hkl)
              refine Exec.skipS ?_
              refine Exec.blk ?_
              refine Exec.opk1 19 ?_
              refine OpenK.o1 (by simp only [go_sem, g1, hrk, sumN] <;> rfl) ?_
              refine OpenK.o1 (by simp only [go_sem, g1, hrk, sumN] <;> rfl) ?_
              refine OpenK.o1 (by simp only [go_sem, g1, hrk, sumN] <;> rfl) ?_
              refine OpenK.o1 (by simp only [go_sem, g1, hrk, sumN] <;> rfl) ?_
              refine OpenK.o1 (by simp only [go_sem, g1, hrk, sumN]; (try simp (disch := omega) only [if_pos]); (try simp only [go_sem, g1, hrk, sumN])<;> rfl) ?_
              refine OpenK.o1 (by simp only [go_sem, g1, hrk, sumN] <;> rfl) ?_
              refine OpenK.o1 (by simp only [go_sem, g1, hrk, sumN] <;> rfl) ?_
              refine OpenK.o1 (by simp only [go_sem, g1, hrk, sumN]; (try simp (disch := omega) only [IntWalk.i64_in, IntWalk.u64_in, if_neg, if_pos])<;> rfl) ?_
              refine OpenK.o1 (by simp only [go_sem, g1, hrk, sumN] <;> rfl) ?_
              refine OpenK.o1 (by simp only [go_sem, g1, hrk, sumN] <;> rfl) ?_
              refine OpenK.o1 (by simp only [go_sem, g1, hrk, sumN] <;> rfl) ?_
              refine OpenK.o1 (by simp only [go_sem, g1, hrk, sumN]; (try simp (disch := omega) only [if_pos]); (try simp only [go_sem, g1, hrk, sumN])<;> rfl) ?_
              refine OpenK.o1 (by simp only [go_sem, g1, hrk, sumN] <;> rfl) ?_
              refine OpenK.o1 (by simp only [go_sem, g1, hrk, sumN] <;> rfl) ?_
              refine OpenK.o1 (by simp only [go_sem, g1, hrk, sumN]; (try simp (disch := omega) only [IntWalk.i64_in, IntWalk.u64_in, if_neg, if_pos])<;> rfl) ?_
              refine OpenK.o1 (by simp only [go_sem, g1, hrk, sumN]; (try simp (disch := omega) only [IntWalk.i64_in, IntWalk.u64_in, if_neg, if_pos])<;> rfl) ?_
              refine OpenK.o1 (by simp only [go_sem, g1, hrk, sumN] <;> rfl) ?_
              refine OpenK.nil (OpenE.finT (by kernel_rfl) (by kernel_rfl) (by kernel_rfl) ?_)
              refine BlkK.nrm ?_
              refine Exec.reg1 ?_
              refine Run.o1 (by simp only [go_sem, g1, hrk, sumN] <;> rfl) ?_
              refine Run.o1 (by simp only [go_sem, g1, hrk, sumN]; (try simp (disch := omega) only [IntWalk.i64_in, IntWalk.u64_in, if_neg, if_pos])<;> rfl) ?_
              refine Run.o1 (by simp only [go_sem, g1, hrk, sumN] <;> rfl) ?_
              refine Run.nil ?_
              refine ForK.nxt ?_ ?_ ?_
              · omega
              · exact Ghost.kp [1, 2, 6, 7] [2] (by simp only [go_sem, g1, hrk, sumN]; first | ((repeat' (first | with_reducible_and_instances rfl | refine st_eq ?_ ?_ ?_ | refine ret_eq ?_ | refine tup_eq ?_ | refine tm_eq ?_ ?_ | refine arr_eq ?_ | refine cells_eq ?_ | refine val_eq ?_ | refine ls_eq ?_ ?_ | refine own_eq ?_ ?_ | refine sl_eq ?_ | refine b_eq ?_ | (refine i_eq ?_; omega))); done) | rfl)
              · exact .inl hst
            · skip
              have hst : stockB s = false := by simpa using hb53
              have hj0 : j = 0 := by rcases Xj with h | h; rw [hst] at h; cases h; exact h
              subst hj0
              have hz : decide (n < 0) = false := decide_eq_false (by omega)
              have hL2 : largeB s n = false := by rw [hL, hst]; rfl
              refine Exec.exitS ?_
              refine ForK.ext ?_
              refine BlkK.hit ?_
              refine Exec.reg ?_
              iterate 4 (refine Run.o1 (by simp only [go_sem, g1, sumN, hz, hL2] <;> rfl) ?_)
              refine Run.nil ?_
              exact Ends.fin [] (rs := [.tmp 4]) rfl (by simp only [go_sem, g1, sumN, hz, hL2] <;> rfl) (by simp only [go_sem, g1, sumN, hz, hL2] <;> first | rfl | ((repeat' (first | with_reducible_and_instances rfl | refine st_eq ?_ ?_ ?_ | refine ret_eq ?_ | refine tup_eq ?_ | refine tm_eq ?_ ?_ | refine arr_eq ?_ | refine cells_eq ?_ | refine val_eq ?_ | refine ls_eq ?_ ?_ | refine own_eq ?_ ?_ | refine sl_eq ?_ | refine b_eq ?_ | (refine i_eq ?_; omega))); done))
          · skip
            have g1 : decide ((j : Int) < (s.rs.length : Int)) = false := decide_eq_false (by omega)
            refine Exec.reg ?_
            iterate 6 (refine Run.o1 (by simp only [go_sem, g1] <;> rfl) ?_)
            refine Run.s ?_
            refine Run.s ?_
            refine Run.o1 (by simp only [go_sem, g1] <;> rfl) ?_
            refine Run.nil ?_
            refine Exec.cndS (by simp only [go_sem, g1] <;> rfl) (fun hb53 => ?_) (fun hb53 => ?_)
            · exact absurd hb53 (by simp)
            · skip
              have hje : j = s.rs.length := by omega
              subst hje
              have hL2 : largeB s n = decide (n < sumN s s.rs.length) := by
                rw [hL]
                rcases Xj with h | h
                · rw [h]; rfl
                · rw [h]
                  have hz : decide (n < sumN s 0) = false := decide_eq_false (by simp only [sumN]; omega)
                  rw [hz, Bool.and_false]
              refine Exec.exitS ?_
              refine ForK.ext ?_
              refine BlkK.hit ?_
              refine Exec.reg ?_
              iterate 4 (refine Run.o1 (by simp only [go_sem, g1, hL2] <;> rfl) ?_)
              refine Run.nil ?_
              exact Ends.fin [] (rs := [.tmp 4]) rfl (by simp only [go_sem, g1, hL2] <;> rfl) (by simp only [go_sem, g1, hL2] <;> first | rfl | ((repeat' (first | with_reducible_and_instances rfl | refine st_eq ?_ ?_ ?_ | refine ret_eq ?_ | refine tup_eq ?_ | refine tm_eq ?_ ?_ | refine arr_eq ?_ | refine cells_eq ?_ | refine val_eq ?_ | refine ls_eq ?_ ?_ | refine own_eq ?_ ?_ | refine sl_eq ?_ | refine b_eq ?_ | (refine i_eq ?_; omega))); done))

set_option maxRecDepth 20000 in
set_option maxHeartbeats 8000000 in
/-- meterworks/meterworkslaw07.all -/
theorem c_law_all (s : Stk) (v : Val s) : Contract Try.prog 16 [stkV s] (.int (sumN s s.rs.length)) [] := by
  have hrl := v.nrs
  refine con_of follows_mixed Try.func16 rfl (by simp only [List.length_cons, List.length_nil, Try.ntmps16]; omega) (by kernel_rfl) rfl ?_
  refine Exec.reg ?_
  iterate 2 (refine Run.o ?_)
  refine Run.nil ?_
  refine Exec.reg ?_
  refine Run.o ?_
  refine Run.nil ?_
  refine Exec.assocS ?_
  refine Exec.reg ?_
  refine Run.o ?_
  refine Run.nil ?_
  refine Exec.blk ?_
  refine Exec.forA [1, 3, 4] [1] (s.rs.length) (fun k => [.slot 4 (.int k), .slot 3 (.int (sumN s k))]) (fun _ => True) (fun k => by simp only [go_sem] <;> rfl) (by simp only [go_sem, sumN] <;> rfl) ?_ (fun k hk hX => ?_)
  · trivial
  · skip
    refine Exec.assocS ?_
    refine Exec.reg ?_
    iterate 5 (refine Run.o ?_)
    refine Run.nil ?_
    refine Exec.cndS (by simp only [go_sem] <;> rfl) (fun hb9 => ?_) (fun hb9 => ?_)
    · skip
      have hlt := lt_of_dec hb9
      have hrk := rowOf_get hlt
      have hrv := v.row _ (rowOf_mem hlt)
      have hsb := sumN_bnd v k (by omega)
      refine Exec.skipS ?_
      refine Exec.blk ?_
      refine Exec.opk1 19 ?_
      refine OpenK.o1 (by simp only [go_sem, hrk, sumN] <;> rfl) ?_
      refine OpenK.o1 (by simp only [go_sem, hrk, sumN] <;> rfl) ?_
      refine OpenK.o1 (by simp only [go_sem, hrk, sumN] <;> rfl) ?_
      refine OpenK.o1 (by simp only [go_sem, hrk, sumN] <;> rfl) ?_
      refine OpenK.o1 (by simp only [go_sem, hrk, sumN]; (try simp (disch := omega) only [if_pos]); (try simp only [go_sem, hrk, sumN])<;> rfl) ?_
      refine OpenK.o1 (by simp only [go_sem, hrk, sumN] <;> rfl) ?_
      refine OpenK.o1 (by simp only [go_sem, hrk, sumN] <;> rfl) ?_
      refine OpenK.o1 (by simp only [go_sem, hrk, sumN]; (try simp (disch := omega) only [IntWalk.i64_in, IntWalk.u64_in, if_neg, if_pos])<;> rfl) ?_
      refine OpenK.o1 (by simp only [go_sem, hrk, sumN] <;> rfl) ?_
      refine OpenK.o1 (by simp only [go_sem, hrk, sumN] <;> rfl) ?_
      refine OpenK.o1 (by simp only [go_sem, hrk, sumN] <;> rfl) ?_
      refine OpenK.o1 (by simp only [go_sem, hrk, sumN]; (try simp (disch := omega) only [if_pos]); (try simp only [go_sem, hrk, sumN])<;> rfl) ?_
      refine OpenK.o1 (by simp only [go_sem, hrk, sumN] <;> rfl) ?_
      refine OpenK.o1 (by simp only [go_sem, hrk, sumN] <;> rfl) ?_
      refine OpenK.o1 (by simp only [go_sem, hrk, sumN]; (try simp (disch := omega) only [IntWalk.i64_in, IntWalk.u64_in, if_neg, if_pos])<;> rfl) ?_
      refine OpenK.o1 (by simp only [go_sem, hrk, sumN]; (try simp (disch := omega) only [IntWalk.i64_in, IntWalk.u64_in, if_neg, if_pos])<;> rfl) ?_
      refine OpenK.o1 (by simp only [go_sem, hrk, sumN] <;> rfl) ?_
      refine OpenK.nil (OpenE.finT (by kernel_rfl) (by kernel_rfl) (by kernel_rfl) ?_)
      refine BlkK.nrm ?_
      refine Exec.reg1 ?_
      refine Run.o1 (by simp only [go_sem, hrk, sumN] <;> rfl) ?_
      refine Run.o1 (by simp only [go_sem, hrk, sumN]; (try simp (disch := omega) only [IntWalk.i64_in, IntWalk.u64_in, if_neg, if_pos])<;> rfl) ?_
      refine Run.o1 (by simp only [go_sem, hrk, sumN] <;> rfl) ?_
      refine Run.nil ?_
      refine ForK.nxt ?_ ?_ ?_
      · omega
      · exact Ghost.kp [1, 3, 4] [1] (by simp only [go_sem, hrk, sumN]; first | ((repeat' (first | with_reducible_and_instances rfl | refine st_eq ?_ ?_ ?_ | refine ret_eq ?_ | refine tup_eq ?_ | refine tm_eq ?_ ?_ | refine arr_eq ?_ | refine cells_eq ?_ | refine val_eq ?_ | refine ls_eq ?_ ?_ | refine own_eq ?_ ?_ | refine sl_eq ?_ | refine b_eq ?_ | (refine i_eq ?_; omega))); done) | rfl)
      · trivial
    · skip
      have hke : k = s.rs.length := by have := ge_of_dec hb9; omega
      subst hke
      refine Exec.exitS ?_
      refine ForK.ext ?_
      refine BlkK.hit ?_
      refine Exec.reg ?_
      iterate 2 (refine Run.o ?_)
      refine Run.nil ?_
      exact Ends.fin [] (rs := [.tmp 2]) rfl (by simp only [go_sem] <;> rfl) (by simp only [go_sem] <;> first | rfl | ((repeat' (first | with_reducible_and_instances rfl | refine st_eq ?_ ?_ ?_ | refine ret_eq ?_ | refine tup_eq ?_ | refine tm_eq ?_ ?_ | refine arr_eq ?_ | refine cells_eq ?_ | refine val_eq ?_ | refine ls_eq ?_ ?_ | refine own_eq ?_ ?_ | refine sl_eq ?_ | refine b_eq ?_ | (refine i_eq ?_; omega))); done))

end Go.Mw
namespace Go.Mw
open Go.Proofs
open Go.Te
theorem cntR_four (s : Stk) (d : Int) (h : (termsR s).2.2 = 0) (hd : inB d 0 131072 = true) : countR s d = ([cq s (termsL s) d s.rs.length 0, cq s (termsL s) d s.rs.length 1, cq s (termsL s) d s.rs.length 2, cq s (termsL s) d s.rs.length 3], 0) := by
  unfold countR
  rw [if_pos h, if_neg (by rw [hd]; decide)]
  exact Prod.ext (cnt_eq s (termsL s) d s.rs.length) rfl
theorem c_cnt (s : Stk) (h : Small s) (d : Int) : Contract Try.prog 10 [stkV s, .int d] (cntV (countR s d)) [] := by
  have hc := c_term_Count s h d
  by_cases hok : (termsR s).2.2 = 0
  · cases hd : inB d 0 131072 with
    | false =>
      obtain ⟨h1, h2⟩ := count_day hok hd
      rw [h1, h2] at hc
      have e : countR s d = ([], 2) := by unfold countR; rw [if_pos hok, if_pos hd]
      rw [e]
      exact Contract.weak hc (Wk.nil2 1 _)
    | true =>
      obtain ⟨h1, h2⟩ := count_good hok hd
      rw [h1, h2] at hc
      rw [cntR_four s d hok hd]
      refine Contract.gho hc ?_
      have := Ghost.frs ⟨[(0, .tup [(false, [.csl 9 0 4]), (false, [.d (.i 0)])])], [(9, cells4 s d s.rs.length)], .ret (cntV ([cq s (termsL s) d s.rs.length 0, cq s (termsL s) d s.rs.length 1, cq s (termsL s) d s.rs.length 2, cq s (termsL s) d s.rs.length 3], 0)) []⟩ 9
      simp only [go_sem] at this
      exact this
  · obtain ⟨h1, h2⟩ := count_bad d hok
    rw [h1, h2] at hc
    have e : countR s d = ([], (termsR s).2.2) := if_neg hok
    rw [e]
    exact Contract.weak hc (Wk.nil2 1 _)
theorem c_du (s : Stk) (h : Small s) (lo hi : Int) : Contract Try.prog 12 [stkV s, spanV lo hi] (cntV (dueR s lo hi)) [] := by
  have hc := c_term_Due s h lo hi
  by_cases hok : (termsR s).2.2 = 0
  · by_cases hd : dueErr lo hi = true
    · obtain ⟨h1, h2⟩ := due_day hok hd
      rw [h1, h2] at hc
      have e : dueR s lo hi = ([], 2) := by unfold dueR; rw [if_pos hok, if_pos hd]
      rw [e]
      exact Contract.weak hc (Wk.nil2 1 _)
    · obtain ⟨h1, h2⟩ := due_good hok hd
      rw [h1, h2] at hc
      have e : dueR s lo hi = (dueTo s (termsL s) lo hi s.rs.length, 0) := by unfold dueR; rw [if_pos hok, if_neg hd]
      rw [e]
      refine Contract.gho hc ?_
      have hl := dueTo_len s (termsL s) lo hi s.rs.length
      have := Ghost.frz ⟨[(0, .tup [(false, [.own 38 0 s.cs.length s.cs.length]), (false, [.d (.i 0)])])], [(38, .arr 3 1 ((dueTo s (termsL s) lo hi s.rs.length).map encInt))], .ret (cntV (dueTo s (termsL s) lo hi s.rs.length, 0)) []⟩ 38
      have ht : List.take s.cs.length ((dueTo s (termsL s) lo hi s.rs.length).map encInt) = (dueTo s (termsL s) lo hi s.rs.length).map encInt := List.take_of_length_le (by rw [List.length_map, hl]; exact Nat.le_refl _)
      simp only [go_sem, List.drop_zero, ht, hl, List.length_map, if_true] at this
      exact this
  · obtain ⟨h1, h2⟩ := due_bad lo hi hok
    rw [h1, h2] at hc
    have e : dueR s lo hi = ([], (termsR s).2.2) := if_neg hok
    rw [e]
    exact Contract.weak hc (Wk.nil2 1 _)
theorem cntR_len (s : Stk) (d : Int) : (countR s d).1.length ≤ 100000 := by
  unfold countR
  split
  · split
    · simp
    · have : (cntTo s (termsR s).1 d s.rs.length).length = 4 := cntTo_len s _ d _
      show (cntTo s (termsR s).1 d s.rs.length).length ≤ _
      omega
  · simp
theorem dueR_len (s : Stk) (h : Small s) (lo hi : Int) : (dueR s lo hi).1.length ≤ 100000 := by
  have := h.cs
  unfold dueR
  split
  · split
    · simp
    · show (dueTo s (termsR s).1 lo hi s.rs.length).length ≤ _
      rw [dueTo_len]; omega
  · simp

theorem large_small {s : Stk} {n : Int} (h : largeB s n = false) : Small s ∧ (stockB s = true → sumN s s.rs.length ≤ n) := by
  unfold largeB at h
  simp only [Bool.or_eq_false_iff] at h
  refine ⟨small_of h.1.1 h.1.2, fun hs => ?_⟩
  rw [hs, Bool.true_and, decide_eq_false_iff_not] at h
  omega
end Go.Mw

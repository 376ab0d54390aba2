/- Contracts of the functions that the book reaches: figures. -/
import Derived.Test.YtpmdcdglfeicaaaGreatDoorD1
import Derived.Test.YtpmdcdglfeicaaaGreatDoorB4
import Derived.Test.YtpmdcdglfeicaaaGreatDoorB6
import Derived.Lib.Split
import Derived.Test.YtpmdcdglfeicaaaGreatDoorB8
import Derived.Test.YtpmdcdglfeicaaaGreatDoorB10
set_option linter.unusedSimpArgs false
set_option linter.unusedVariables false
set_option linter.unusedSectionVars false
set_option linter.deprecated false
namespace Go.Mw
open Go.Proofs
open Go.Bk
attribute [local go_sem] decide_true beq_self_eq_true bne_self_eq_false
theorem valD_take {s : Bs} {p : Nat} {c : UInt8} (h : s[p]? = some c) : valD (s.take (p + 1)) = 10 * valD (s.take p) + (c.toNat - 48) := by rw [take_snoc h, valD_snoc]
theorem valD_bnd : ∀ (n : Nat) (s : Bs), s.length ≤ n → s.all isDig = true → valD s < 10 ^ n := by
 intro n
 induction n with
 | zero => intro s h _; have : s = [] := List.eq_nil_of_length_eq_zero (by omega); subst this; decide
 | succ n ih =>
  intro s h hd
  rcases List.eq_nil_or_concat s with rfl | ⟨t, c, rfl⟩
  ·exact Nat.pow_pos (by decide)
  ·rw [List.concat_eq_append] at h hd ⊢
   rw [List.all_append, Bool.and_eq_true] at hd
   have hc : isDig c = true := by simpa using hd.2
   unfold isDig at hc
   simp only [Bool.and_eq_true, decide_eq_true_eq] at hc
   have := ih t (by simp at h; omega) hd.1
   rw [valD_snoc, Nat.pow_succ]; omega
theorem bs_ne {s t : Bs} (h : s ≠ t) : (s == t) = false := by simpa using h
set_option maxRecDepth 20000 in
set_option maxHeartbeats 4000000 in
theorem c_fig (s : Bs) (h : figOK s = true) : Contract Tryz.prog 109 [.str s] (.int (valD s : Nat)) [] := by
 obtain ⟨h1, h2, h3, h4⟩ := figOK_iff.1 h
 have e1 := bs_ne h1
 have hle : decide ((s.length : Int) ≤ 12) = true := decide_eq_true (by omega)
 have hpos : 0 < s.length := List.length_pos_iff.2 h1
 have hv := valD_bnd 12 s h2 h4
 refine con_of follows_mixed Tryz.func109 rfl V96 V162 rfl ?_
 refine Exec.reg ?_
 have X := (Fx.mk e1).a hle
 refine Run.o1 V110 ?_
 refine Run.nil ?_
 by_cases hz : s = [48]
 ·skip
  have e2 : (s == [48]) = true := by rw [hz]; rfl
  refine Exec.reg ?_
  have X := X.a e2
  iterate 3 (refine Run.o1 V110 ?_)
  iterate 3 (refine Run.y1 V110 ?_)
  iterate 2 (refine Run.o1 V110 ?_)
  iterate 3 (refine Run.y1 V110 ?_)
  iterate 3 (refine Run.s ?_)
  refine Run.y1 V110 ?_
  refine Run.o1 V110 ?_
  refine Run.c1 (c_need true rfl) V110 V110 ?_
  refine Run.nil (Exec.assocS (Exec.reg ?_))
  iterate 2 (refine Run.o1 V110 ?_)
  refine Run.nil (Exec.blk ?_)
  refine Exec.whl [2, 23] [23] (fun (p : Nat) => [.slot 2 (.int (valD (s.take p) : Nat)), .slot 23 (.leaf (.obj 23)), .obj 23 (.sit (bs s) p)]) (fun p => p ≤ s.length) (fun p => s.length - p) (0) (fun p => by simp only [go_sem] <;> rfl) (by simp only [go_sem, X.h, Bool.not_false, Bool.not_true, Int.natCast_zero] <;> rfl) ?_ (fun p hX => ?_)
  ·exact Nat.zero_le _
  ·skip
   by_cases hp : p < s.length
   ·skip
    obtain ⟨c, hx⟩ : ∃ c, s[p]? = some c := ⟨_, List.getElem?_eq_getElem hp⟩
    have hcd : isDig c = true := List.all_eq_true.1 h4 c (List.mem_of_getElem? hx)
    unfold isDig at hcd
    simp only [Bool.and_eq_true, decide_eq_true_eq] at hcd
    have hec : s[p] = c := by rw [List.getElem?_eq_getElem hp] at hx; exact Option.some.inj hx
    have hdec := dec_low s p hp (by rw [hec]; omega)
    rw [hec] at hdec
    have d1 : decide ((48 : Int) ≤ (c.toNat : Int)) = true := decide_eq_true (by omega)
    have d2 : decide ((c.toNat : Int) ≤ 57) = true := decide_eq_true (by omega)
    have hvt := valD_take hx
    have hvb := valD_bnd 12 (s.take p) V154 (List.all_eq_true.2 fun x hx => List.all_eq_true.1 h4 x (List.mem_of_mem_take hx))
    refine Exec.reg ?_
    have X := (((X.a hp).a hdec).a d1).a d2
    iterate 2 (refine Run.o1 V110 ?_)
    refine Run.nil ?_
    refine Exec.cndS V110 (fun hb25 => ?_) (fun hb25 => ?_)
    ·skip
     refine Exec.skipS (Exec.blk1 (Exec.reg ?_))
     iterate 2 (refine Run.o1 V110 ?_)
     refine Run.nil (Exec.reg ?_)
     iterate 3 (refine Run.o1 V110 ?_)
     iterate 2 (refine Run.y1 V110 ?_)
     refine Run.o1 V110 ?_
     refine Run.c1 (c_need true rfl) V110 V110 ?_
     refine Run.nil (Exec.reg1 ?_)
     refine Run.o1 V110 ?_
     refine Run.o1 V43 ?_
     refine Run.o1 V110 ?_
     iterate 3 (refine Run.o1 V43 ?_)
     refine Run.o1 V110 ?_
     refine Run.nil (Blk1K.nrm ?_)
     refine WhlK.nxt (p + 1) ?_ ?_ ?_
     ·show s.length - (p + 1) < s.length - p; omega
     ·show p + 1 ≤ s.length; omega
     ·exact Ghost.kp [2, 23] [23] (by simp only [go_sem, X.h, Bool.not_false, Bool.not_true] <;> first | ((repeat' (first | with_reducible_and_instances rfl | refine st_eq ?_ ?_ ?_ | refine ret_eq ?_ | refine tup_eq ?_ | refine tm_eq ?_ ?_ | refine arr_eq ?_ | refine cells_eq ?_ | refine val_eq ?_ | refine ls_eq ?_ ?_ | refine own_eq ?_ ?_ | refine sl_eq ?_ | refine b_eq ?_ | (refine i_eq ?_; omega))); all_goals (first | omega | (rw [hvt]; omega))) | rfl)
    ·exact absurd hb25 (by simp)
   ·skip
    have hpe : p = s.length := by omega
    subst hpe
    have htk : s.take s.length = s := List.take_length
    refine Exec.reg ?_
    have X := (X.a hp).a htk
    iterate 2 (refine Run.o1 V110 ?_)
    refine Run.nil ?_
    refine Exec.cndS V110 (fun hb25 => ?_) (fun hb25 => ?_)
    ·exact absurd hb25 (by simp)
    ·skip
     refine Exec.exitS (WhlK.ext (BlkK.hit (Exec.reg ?_)))
     iterate 2 (refine Run.o1 V110 ?_)
     refine Run.nil ?_
     exact Ends.fin [] (rs := [.tmp 2]) rfl V110 (by simp only [go_sem, X.h, Bool.not_false, Bool.not_true] <;> first | rfl | exact eqz)
 ·skip
  have e2 := bs_ne hz
  have hc0 : s.head? ≠ some 48 := h3.resolve_left hz
  obtain ⟨c0, hx0⟩ : ∃ c, s[0]? = some c := ⟨_, List.getElem?_eq_getElem hpos⟩
  have hn0 : ((c0.toNat : Int) != 48) = true := by
   simp only [bne_iff_ne, ne_eq]
   intro e
   apply hc0
   rw [List.head?_eq_getElem?, hx0]
   congr 1
   have : c0.toNat = 48 := by omega
   exact UInt8.toNat_inj.1 this
  refine Exec.reg ?_
  have X := ((X.a e2).a hx0).a hn0
  iterate 3 (refine Run.o1 V87 ?_)
  iterate 3 (refine Run.y1 V87 ?_)
  iterate 2 (refine Run.o1 V87 ?_)
  iterate 7 (refine Run.y1 V87 ?_)
  refine Run.o1 V87 ?_
  refine Run.c1 (c_need true rfl) V87 V87 ?_
  refine Run.nil (Exec.assocS (Exec.reg ?_))
  iterate 2 (refine Run.o1 V87 ?_)
  refine Run.nil (Exec.blk ?_)
  refine Exec.whl [2, 23] [23] (fun (p : Nat) => [.slot 2 (.int (valD (s.take p) : Nat)), .slot 23 (.leaf (.obj 23)), .obj 23 (.sit (bs s) p)]) (fun p => p ≤ s.length) (fun p => s.length - p) (0) (fun p => by simp only [go_sem] <;> rfl) (by simp only [go_sem, X.h, Bool.not_false, Bool.not_true, Int.toNat_zero, Int.natCast_zero] <;> rfl) ?_ (fun p hX => ?_)
  ·exact Nat.zero_le _
  ·skip
   by_cases hp : p < s.length
   ·skip
    obtain ⟨c, hx⟩ : ∃ c, s[p]? = some c := ⟨_, List.getElem?_eq_getElem hp⟩
    have hcd : isDig c = true := List.all_eq_true.1 h4 c (List.mem_of_getElem? hx)
    unfold isDig at hcd
    simp only [Bool.and_eq_true, decide_eq_true_eq] at hcd
    have hec : s[p] = c := by rw [List.getElem?_eq_getElem hp] at hx; exact Option.some.inj hx
    have hdec := dec_low s p hp (by rw [hec]; omega)
    rw [hec] at hdec
    have d1 : decide ((48 : Int) ≤ (c.toNat : Int)) = true := decide_eq_true (by omega)
    have d2 : decide ((c.toNat : Int) ≤ 57) = true := decide_eq_true (by omega)
    have hvt := valD_take hx
    have hvb := valD_bnd 12 (s.take p) V154 (List.all_eq_true.2 fun x hx => List.all_eq_true.1 h4 x (List.mem_of_mem_take hx))
    refine Exec.reg ?_
    have X := (((X.a hp).a hdec).a d1).a d2
    iterate 2 (refine Run.o1 V87 ?_)
    refine Run.nil ?_
    refine Exec.cndS V87 (fun hb25 => ?_) (fun hb25 => ?_)
    ·skip
     refine Exec.skipS (Exec.blk1 (Exec.reg ?_))
     iterate 2 (refine Run.o1 V87 ?_)
     refine Run.nil (Exec.reg ?_)
     iterate 3 (refine Run.o1 V87 ?_)
     iterate 2 (refine Run.y1 V87 ?_)
     refine Run.o1 V87 ?_
     refine Run.c1 (c_need true rfl) V87 V87 ?_
     refine Run.nil (Exec.reg1 ?_)
     refine Run.o1 V87 ?_
     refine Run.o1 V36 ?_
     refine Run.o1 V87 ?_
     iterate 3 (refine Run.o1 V36 ?_)
     refine Run.o1 V87 ?_
     refine Run.nil (Blk1K.nrm ?_)
     refine WhlK.nxt (p + 1) ?_ ?_ ?_
     ·show s.length - (p + 1) < s.length - p; omega
     ·show p + 1 ≤ s.length; omega
     ·exact Ghost.kp [2, 23] [23] V13
    ·exact absurd hb25 (by simp)
   ·skip
    have hpe : p = s.length := by omega
    subst hpe
    have htk : s.take s.length = s := List.take_length
    refine Exec.reg ?_
    have X := (X.a hp).a htk
    iterate 2 (refine Run.o1 V87 ?_)
    refine Run.nil ?_
    refine Exec.cndS V87 (fun hb25 => ?_) (fun hb25 => ?_)
    ·exact absurd hb25 (by simp)
    ·skip
     refine Exec.exitS (WhlK.ext (BlkK.hit (Exec.reg ?_)))
     iterate 2 (refine Run.o1 V87 ?_)
     refine Run.nil ?_
     exact Ends.fin [] (rs := [.tmp 2]) rfl V87 (by simp only [go_sem, X.h, Bool.not_false, Bool.not_true, Int.toNat_zero] <;> first | rfl | exact eqz)

set_option maxRecDepth 20000 in
theorem p_figA : Pan Tryz.prog pvE 109 [.str []] [] := by
 refine pan_of follows_mixed Tryz.func109 rfl V96 V162 rfl ?_
 refine Exec.reg ?_
 refine Run.o1 V139 ?_
 refine Run.nil ?_
 refine Exec.pan (pv := pvE) 16 rfl ?_
 iterate 3 (refine Run.o1 V139 ?_)
 iterate 3 (refine Run.s ?_)
 iterate 2 (refine Run.o1 V139 ?_)
 iterate 7 (refine Run.s ?_)
 refine Run.o1 V139 ?_
 exact Run.panc (p_need false rfl) V158 V139 V66 rfl

set_option maxRecDepth 20000 in
theorem p_figB (s : Bs) (h1 : 12 < s.length) (hl : s.length ≤ 1000000000) : Pan Tryz.prog pvE 109 [.str s] [] := by
 have hne : s ≠ [] := fun e => by rw [e] at h1; simp at h1
 have e1 := bs_ne hne
 have hle : decide ((s.length : Int) ≤ 12) = false := decide_eq_false (by omega)
 refine pan_of follows_mixed Tryz.func109 rfl V96 V162 rfl ?_
 refine Exec.reg ?_
 have X := (Fx.mk e1).a hle
 refine Run.o1 V129 ?_
 refine Run.nil ?_
 refine Exec.pan (pv := pvE) 16 rfl ?_
 iterate 3 (refine Run.o1 V129 ?_)
 iterate 3 (refine Run.y1 V129 ?_)
 iterate 2 (refine Run.o1 V129 ?_)
 iterate 7 (refine Run.s ?_)
 refine Run.o1 V129 ?_
 exact Run.panc (p_need false rfl) V158 V129 V66 rfl

set_option maxRecDepth 20000 in
theorem p_figC (s : Bs) (h1 : s.length ≤ 12) (hz : s ≠ [48]) (h0 : s[0]? = some 48) : Pan Tryz.prog pvE 109 [.str s] [] := by
 have hne : s ≠ [] := fun e => by rw [e] at h0; simp at h0
 have e1 := bs_ne hne
 have e2 := bs_ne hz
 have hle : decide ((s.length : Int) ≤ 12) = true := decide_eq_true (by omega)
 have h48 : (((48 : UInt8).toNat : Int) != 48) = false := rfl
 refine pan_of follows_mixed Tryz.func109 rfl V96 V162 rfl ?_
 refine Exec.reg ?_
 have X := ((((Fx.mk e1).a e2).a hle).a h0).a h48
 refine Run.o1 V106 ?_
 refine Run.nil ?_
 refine Exec.pan (pv := pvE) 16 rfl ?_
 iterate 3 (refine Run.o1 V106 ?_)
 iterate 3 (refine Run.y1 V106 ?_)
 iterate 2 (refine Run.o1 V106 ?_)
 iterate 7 (refine Run.y1 V106 ?_)
 refine Run.o1 V106 ?_
 exact Run.panc (p_need false rfl) V158 V106 V66 rfl

set_option maxRecDepth 20000 in
set_option maxHeartbeats 4000000 in
theorem p_figD (s a r : Bs) (c0 : UInt8) (hs : s = a ++ c0 :: r) (h1 : s.length ≤ 12) (h3 : s = [48] ∨ s.head? ≠ some 48) (h4 : a.all isDig = true) (h5 : isDig c0 = false) : Pan Tryz.prog pvE 109 [.str s] [] := by
 have hsl : s.length = a.length + (r.length + 1) := by rw [hs]; simp
 have hne : s ≠ [] := fun e => by rw [e] at hsl; simp at hsl
 have e1 := bs_ne hne
 have hle : decide ((s.length : Int) ≤ 12) = true := decide_eq_true (by omega)
 have hpos : 0 < s.length := by omega
 refine pan_of follows_mixed Tryz.func109 rfl V96 V162 rfl ?_
 refine Exec.reg ?_
 have X := (Fx.mk e1).a hle
 refine Run.o1 V110 ?_
 refine Run.nil ?_
 by_cases hz : s = [48]
 ·skip
  exfalso
  rw [hz] at hs
  cases a with
  | nil => simp at hs; rw [← hs.1] at h5; cases h5
  | cons y a => simp at hs
 ·skip
  have e2 := bs_ne hz
  have hc0 : s.head? ≠ some 48 := h3.resolve_left hz
  obtain ⟨d0, hx0⟩ : ∃ c, s[0]? = some c := ⟨_, List.getElem?_eq_getElem hpos⟩
  have hn0 : ((d0.toNat : Int) != 48) = true := by
   simp only [bne_iff_ne, ne_eq]
   intro e
   apply hc0
   rw [List.head?_eq_getElem?, hx0]
   congr 1
   have : d0.toNat = 48 := by omega
   exact UInt8.toNat_inj.1 this
  refine Exec.reg ?_
  have X := ((X.a e2).a hx0).a hn0
  iterate 3 (refine Run.o1 V87 ?_)
  iterate 3 (refine Run.y1 V87 ?_)
  iterate 2 (refine Run.o1 V87 ?_)
  iterate 7 (refine Run.y1 V87 ?_)
  refine Run.o1 V87 ?_
  refine Run.c1 (c_need true rfl) V87 V87 ?_
  refine Run.nil (Exec.assocS (Exec.reg ?_))
  iterate 2 (refine Run.o1 V87 ?_)
  refine Run.nil (Exec.blk ?_)
  refine Exec.whl [2, 23] [23] (fun (p : Nat) => [.slot 2 (.int (valD (s.take p) : Nat)), .slot 23 (.leaf (.obj 23)), .obj 23 (.sit (bs s) p)]) (fun p => p ≤ a.length) (fun p => a.length - p) (0) (fun p => by simp only [go_sem] <;> rfl) (by simp only [go_sem, X.h, Bool.not_false, Bool.not_true, Int.toNat_zero, Int.natCast_zero] <;> rfl) ?_ (fun p hX => ?_)
  ·exact Nat.zero_le _
  ·skip
   have hp : p < s.length := by have : p ≤ a.length := hX; omega
   refine Exec.reg ?_
   have X := X.a hp
   iterate 2 (refine Run.o1 V87 ?_)
   refine Run.nil ?_
   refine Exec.cndS V87 (fun hb25 => ?_) (fun hb25 => ?_)
   ·skip
    refine Exec.skipS (Exec.blk1 (Exec.reg ?_))
    iterate 2 (refine Run.o1 V87 ?_)
    refine Run.nil ?_
    by_cases hpa : p < a.length
    ·skip
     obtain ⟨c, hxa⟩ : ∃ c, a[p]? = some c := ⟨_, List.getElem?_eq_getElem hpa⟩
     have hx : s[p]? = some c := by rw [hs, List.getElem?_append_left hpa]; exact hxa
     have hcd : isDig c = true := List.all_eq_true.1 h4 c (List.mem_of_getElem? hxa)
     unfold isDig at hcd
     simp only [Bool.and_eq_true, decide_eq_true_eq] at hcd
     have hec : s[p] = c := by rw [List.getElem?_eq_getElem hp] at hx; exact Option.some.inj hx
     have hdec := dec_low s p hp (by rw [hec]; omega)
     rw [hec] at hdec
     have d1 : decide ((48 : Int) ≤ (c.toNat : Int)) = true := decide_eq_true (by omega)
     have d2 : decide ((c.toNat : Int) ≤ 57) = true := decide_eq_true (by omega)
     have hvt := valD_take hx
     have htp : s.take p = a.take p := by rw [hs, List.take_append_of_le_length (by omega)]
     have hvb := valD_bnd 12 (s.take p) V154 (by rw [htp]; exact List.all_eq_true.2 fun x hx => List.all_eq_true.1 h4 x (List.mem_of_mem_take hx))
     refine Exec.reg ?_
     have X := ((X.a hdec).a d1).a d2
     iterate 3 (refine Run.o1 V87 ?_)
     iterate 2 (refine Run.y1 V87 ?_)
     refine Run.o1 V87 ?_
     refine Run.c1 (c_need true rfl) V87 V87 ?_
     refine Run.nil (Exec.reg1 ?_)
     refine Run.o1 V87 ?_
     refine Run.o1 V36 ?_
     refine Run.o1 V87 ?_
     iterate 3 (refine Run.o1 V36 ?_)
     refine Run.o1 V87 ?_
     refine Run.nil (Blk1K.nrm ?_)
     refine WhlK.nxt (p + 1) ?_ ?_ ?_
     ·show a.length - (p + 1) < a.length - p; omega
     ·show p + 1 ≤ a.length; omega
     ·exact Ghost.kp [2, 23] [23] V13
    ·skip
     have hpe : p = a.length := by omega
     have hsc : s[p]? = some c0 := by rw [hs, hpe, List.getElem?_append_right (Nat.le_refl _), Nat.sub_self]; rfl
     have hec : s[p] = c0 := by rw [List.getElem?_eq_getElem hp] at hsc; exact Option.some.inj hsc
     have hnd : ¬ (48 ≤ (Utf8.decode (bs s) p).1 ∧ (Utf8.decode (bs s) p).1 ≤ 57) := fun ⟨g1, g2⟩ => by
      have := (rune_dig hp g1 g2).2.2
      rw [hec, h5] at this; cases this
     by_cases hv : 48 ≤ (Utf8.decode (bs s) p).1
     ·skip
      have d1 : decide ((48 : Int) ≤ (((Utf8.decode (bs s) p).1 : Nat) : Int)) = true := decide_eq_true (by omega)
      have d2 : decide ((((Utf8.decode (bs s) p).1 : Nat) : Int) ≤ 57) = false := decide_eq_false (by omega)
      refine Exec.pan (pv := pvE) 6 rfl ?_
      have X := (X.a d1).a d2
      iterate 3 (refine Run.o1 V87 ?_)
      iterate 2 (refine Run.y1 V87 ?_)
      refine Run.o1 V87 ?_
      exact Run.panc (p_need false rfl) V158 V87 V66 rfl
     ·skip
      have d1 : decide ((48 : Int) ≤ (((Utf8.decode (bs s) p).1 : Nat) : Int)) = false := decide_eq_false (by omega)
      refine Exec.pan (pv := pvE) 6 rfl ?_
      have X := X.a d1
      iterate 3 (refine Run.o1 V87 ?_)
      iterate 2 (refine Run.s ?_)
      refine Run.o1 V87 ?_
      exact Run.panc (p_need false rfl) V158 V87 V66 rfl
   ·exact absurd hb25 (by simp)

end Go.Mw
namespace Go.Bk
open Go.Lib
theorem ix_hit (c : UInt8) : ∀ (a r : Bs), c ∉ a → index (a ++ c :: r) [c] = a.length
 | [], r, _ => by
  have h : [c].isPrefixOf (c :: r) = true := by simp
  show index (c :: r) [c] = _
  unfold index
  rw [if_pos h]; rfl
 | x :: a, r, h => by
  have hx : c ≠ x := fun e => h (by simp [e])
  have hp : ¬ [c].isPrefixOf (x :: (a ++ c :: r)) = true := by simp [hx]
  have ih := ix_hit c a r fun e => h (by simp [e])
  show index (x :: (a ++ c :: r)) [c] = _
  unfold index
  rw [if_neg hp, ih]
  have : (((a.length : Nat) : Int) == -1) = false := by rw [beq_eq_false_iff_ne]; omega
  simp [this]
theorem ix_none (c : UInt8) : ∀ (a : Bs), c ∉ a → index a [c] = -1
 | [], _ => rfl
 | x :: a, h => by
  have hx : c ≠ x := fun e => h (by simp [e])
  have hp : ¬ [c].isPrefixOf (x :: a) = true := by simp [hx]
  have ih := ix_none c a fun e => h (by simp [e])
  unfold index
  rw [if_neg hp, ih]; rfl
theorem first_of (c : UInt8) (s : Bs) (h : c ∈ s) : ∃ a r, s = a ++ c :: r ∧ c ∉ a := by
 induction s with
 | nil => cases h
 | cons x s ih =>
  by_cases e : x = c
  ·subst e; exact ⟨[], s, rfl, by simp⟩
  ·obtain ⟨a, r, e1, e2⟩ := ih (by rcases List.mem_cons.1 h with h | h; exact absurd h.symm e; exact h)
   exact ⟨x :: a, r, by rw [e1]; rfl, fun h => by rcases List.mem_cons.1 h with h | h; exact e h.symm; exact e2 h⟩
theorem cf_one (c : UInt8) : ∀ (n : Nat) (s : Bs), s.length < n → countFrom [c] n s = s.count c
 | 0, s, h => by omega
 | n + 1, s, h => by
  unfold countFrom
  by_cases hc : c ∈ s
  ·obtain ⟨a, r, rfl, ha⟩ := first_of c s hc
   rw [ix_hit c a r ha]
   have h1 : (((a.length : Nat) : Int) == -1) = false := by rw [beq_eq_false_iff_ne]; omega
   rw [h1]
   have hd : (a ++ c :: r).drop (((a.length : Nat) : Int).toNat + [c].length) = r := by simp
   rw [hd, cf_one c n r (by simp at h; omega)]
   simp [List.count_append, List.count_eq_zero_of_not_mem ha]; omega
  ·rw [ix_none c s hc, List.count_eq_zero_of_not_mem hc]; rfl
theorem sk_one (c : UInt8) : ∀ (n : Nat) (s : Bs), s.length ≤ n → splitK [c] 0 (s.count c) s = cutB c s
 | n, s, h => by
  by_cases hc : c ∈ s
  ·obtain ⟨a, r, rfl, ha⟩ := first_of c s hc
   have hn : (a ++ c :: r).count c = r.count c + 1 := by simp [List.count_append, List.count_eq_zero_of_not_mem ha]
   rw [hn, splitK, ix_hit c a r ha]
   have h1 : (((a.length : Nat) : Int) == -1) = false := by rw [beq_eq_false_iff_ne]; omega
   rw [h1]
   have hd : (a ++ c :: r).drop (((a.length : Nat) : Int).toNat + [c].length) = r := by simp
   rw [hd, cutB_app c a r ha]
   have hl : r.length < n := by simp at h; omega
   match n, hl with
   | n + 1, hl => rw [sk_one c n r (by omega)]; simp
  ·rw [List.count_eq_zero_of_not_mem hc, cutB_none c s hc]; rfl
end Go.Bk
namespace Go.Mw
open Go.Proofs Go.Bk
theorem gMax146 : Tryz.prog.globalNamed "internal/bytealg.MaxLen" = some (Tryz.lays146_ren.g 1) := by kernel_rfl
theorem pieces_cut (s : Bs) (c : UInt8) : piecesB s [c] = (cutB c s).map encStr := by
 have hc : Lib.countB (bs s) (bs [c]) = s.count c := by
  show Lib.count (bs s).data.toList (bs [c]).data.toList = _
  rw [bs_toList, bs_toList]
  exact cf_one c _ s (Nat.lt_succ_self _)
 have hd := Lib.splitB_data (bs [c]) 0 (s.count c) (bs s)
 rw [bs_toList, bs_toList, sk_one c _ s (Nat.le_refl _)] at hd
 unfold piecesB
 rw [hc, ← hd, List.map_map]
 refine List.map_congr_left fun x _ => ?_
 show _ = [D.raw (.string (bs x.data.toList))]
 rw [bs_data]
theorem c_Split1 (s : Bs) (c : UInt8) (hs : s.length ≤ 1000000000) : Contract Tryz.prog 107 [.str s, .str [c]] (.leaf (.own 900 0 (cutB c s).length (cutB c s).length)) [(900, .arr 9 1 ((cutB c s).map encStr))] := by
 have h := c_Split s [c] (by simp) (by omega) _ gMax146 rfl
 rw [pieces_cut, List.length_map] at h
 exact h
end Go.Mw
namespace Go.Mw
open Go.Proofs
open Go.Bk
attribute [local go_sem] decide_true beq_self_eq_true bne_self_eq_false
theorem dig_split : ∀ (s : Bs), s.all isDig = false → ∃ a c r, s = a ++ c :: r ∧ a.all isDig = true ∧ isDig c = false
 | [], h => by cases h
 | x :: s, h => by
  by_cases hx : isDig x = true
  ·rw [List.all_cons, hx, Bool.true_and] at h
   obtain ⟨a, c, r, e, h1, h2⟩ := dig_split s h
   exact ⟨x :: a, c, r, by rw [e]; rfl, by rw [List.all_cons, hx, h1]; rfl, h2⟩
  ·exact ⟨[], x, s, rfl, rfl, by simpa using hx⟩
theorem p_fig {s : Bs} (h : figOK s = false) (hl : s.length ≤ 1000000000) : Pan Tryz.prog pvE 109 [.str s] [] := by
 by_cases h0 : s = []
 ·subst h0; exact p_figA
 ·by_cases h1 : s.length ≤ 12
  ·by_cases h2 : s = [48] ∨ s.head? ≠ some 48
   ·have h3 : s.all isDig = false := by
     rw [← Bool.not_eq_true]
     intro h3
     rw [figOK_iff.2 ⟨h0, h1, h2, h3⟩] at h; cases h
    obtain ⟨a, c, r, e, h4, h5⟩ := dig_split s h3
    exact p_figD s a r c e h1 h2 h4 h5
   ·have hz : s ≠ [48] := fun e => h2 (.inl e)
    have hh : s.head? = some 48 := Decidable.byContradiction fun e => h2 (.inr e)
    exact p_figC s h1 hz (by rw [← List.head?_eq_getElem?]; exact hh)
  ·exact p_figB s (by omega) hl
theorem fig_bnd {s : Bs} (h : figOK s = true) : valD s < 1000000000000 := by
 obtain ⟨h1, h2, h3, h4⟩ := figOK_iff.1 h
 exact valD_bnd 12 s h2 h4
end Go.Mw
namespace Go.Mw
open Go.Proofs
open Go.Bk
attribute [local go_sem] decide_true beq_self_eq_true bne_self_eq_false
theorem suf_one (s : Bs) (c : UInt8) (h : s.getLast? = some c) : Lib.hasSuffix s [c] = true ∧ Lib.trimSuffix s [c] = s.dropLast := by
 rcases List.eq_nil_or_concat s with rfl | ⟨t, d, rfl⟩
 ·cases h
 ·rw [List.concat_eq_append] at h ⊢
  have : d = c := by simpa using h
  subst this
  constructor
  ·simp [Lib.hasSuffix]
  ·simp [Lib.trimSuffix, Lib.hasSuffix]
theorem suf_no (s : Bs) (c : UInt8) (h : s.getLast? ≠ some c) : Lib.hasSuffix s [c] = false := by
 rcases List.eq_nil_or_concat s with rfl | ⟨t, d, rfl⟩
 ·simp [Lib.hasSuffix]
 ·rw [List.concat_eq_append] at h ⊢
  have : ¬ c = d := fun e => h (by rw [e]; simp)
  simp [Lib.hasSuffix, List.isSuffixOf, List.isPrefixOf, this]
set_option maxRecDepth 20000 in
theorem c_lines0 : Contract Tryz.prog 53 [.str []] (.leaf (.d (strsD []))) [] := by
 refine con_of follows_mixed Tryz.func53 rfl V99 V162 rfl ?_
 refine Exec.reg ?_
 refine Run.o ?_
 refine Run.nil (Exec.assocS (Exec.reg ?_))
 iterate 2 (refine Run.o ?_)
 refine Run.nil ?_
 refine Exec.cndS V156 (fun hb4 => ?_) (fun hb4 => ?_)
 ·skip
  refine Exec.assocS (Exec.reg ?_)
  refine Run.o ?_
  refine Run.nild 2 1 V156 V156 ?_
  refine Run.nil (Exec.retS ?_)
  exact Ends.fin [] (rs := [.tmp 2]) rfl V156 V130
 ·exact absurd hb4 (by simp)

set_option maxRecDepth 20000 in
theorem c_lines1 (s : Bs) (h : s.getLast? = some 10) (hl : s.length ≤ 1000000000) : Contract Tryz.prog 53 [.str s] (.leaf (.d (strsD (cutB 10 s.dropLast)))) [] := by
 obtain ⟨g1, g2⟩ := suf_one s 10 h
 have hne : s ≠ [] := fun e => by rw [e] at h; cases h
 have e1 := bs_ne hne
 have c1 := c_HasSuffix s [10] (by omega)
 have c2 := c_TrimSuffix s [10] (by omega)
 rw [g1] at c1
 rw [g2] at c2
 have hdl : s.dropLast.length ≤ 1000000000 := by rw [List.length_dropLast]; omega
 have htk : ((cutB 10 s.dropLast).map encStr).take (cutB 10 s.dropLast).length = (cutB 10 s.dropLast).map encStr := List.take_of_length_le (by simp)
 refine con_of follows_mixed Tryz.func53 rfl V99 V162 rfl ?_
 refine Exec.reg ?_
 have X := Fx.mk e1
 refine Run.o1 V152 ?_
 refine Run.nil (Exec.assocS (Exec.reg ?_))
 iterate 2 (refine Run.o1 V152 ?_)
 refine Run.nil ?_
 refine Exec.cndS V152 (fun hb4 => ?_) (fun hb4 => ?_)
 ·exact absurd hb4 (by simp)
 ·skip
  refine Exec.skipS (Exec.reg ?_)
  refine Run.o1 V152 ?_
  refine Run.c1 (c1) V152 V152 ?_
  refine Run.c1 (c_need true rfl) V152 V152 ?_
  refine Run.nil (Exec.reg ?_)
  refine Run.o1 V152 ?_
  refine Run.c1 (c2) V152 V152 ?_
  refine Run.cal (c_Split1 s.dropLast 10 hdl) V158 V152 V25 (fr1 V156) V152 ?_
  refine Run.o1 V152 ?_
  have X := Fx.mk htk
  refine Run.frz 11900 (by simp only [go_sem, X.h, List.length_map] <;> rfl) ?_
  refine Run.nil ?_
  have X := Fx.mk e1
  exact Ends.fin [] (rs := [.tmp 2]) rfl V152 V121

set_option maxRecDepth 20000 in
theorem p_lines1 (s : Bs) (h0 : s ≠ []) (h : s.getLast? ≠ some 10) (hl : s.length ≤ 1000000000) : Pan Tryz.prog pvE 53 [.str s] [] := by
 have g1 := suf_no s 10 h
 have e1 := bs_ne h0
 have c1 := c_HasSuffix s [10] (by omega)
 rw [g1] at c1
 refine pan_of follows_mixed Tryz.func53 rfl V99 V162 rfl ?_
 refine Exec.reg ?_
 have X := Fx.mk e1
 refine Run.o1 V152 ?_
 refine Run.nil (Exec.assocS (Exec.reg ?_))
 iterate 2 (refine Run.o1 V152 ?_)
 refine Run.nil ?_
 refine Exec.cndS V152 (fun hb4 => ?_) (fun hb4 => ?_)
 ·exact absurd hb4 (by simp)
 ·skip
  refine Exec.skipS ?_
  refine Exec.pan (pv := pvE) 2 rfl ?_
  refine Run.o1 V152 ?_
  refine Run.c1 (c1) V152 V152 ?_
  exact Run.panc (p_need false rfl) V158 V152 V66 rfl

theorem c_lines {s : Bs} {ls : List Bs} (hl : s.length ≤ 1000000000) (h : linesP s = some ls) : Contract Tryz.prog 53 [.str s] (.leaf (.d (strsD ls))) [] := by
 unfold linesP at h
 split at h
 ·next e => cases h; subst e; exact c_lines0
 ·split at h
  ·next e => cases h; exact c_lines1 s e hl
  ·cases h
theorem p_lines {s : Bs} (hl : s.length ≤ 1000000000) (h : linesP s = none) : Pan Tryz.prog pvE 53 [.str s] [] := by
 unfold linesP at h
 split at h
 ·cases h
 ·next e0 =>
  split at h
  ·cases h
  ·next e => exact p_lines1 s e0 e hl
end Go.Mw
namespace Go.Bk
end Go.Bk
namespace Go.Bk
end Go.Bk
namespace Go.Mw
open Go.Proofs
open Go.Bk
attribute [local go_sem] decide_true beq_self_eq_true bne_self_eq_false
theorem cut_len (c : UInt8) : ∀ (s w : Bs), w ∈ cutB c s → w.length ≤ s.length
 | [], w, h => by simp [cutB] at h; subst h; simp
 | x :: s, w, h => by
  unfold cutB at h
  split at h
  ·rcases List.mem_cons.1 h with h | h
   ·subst h; simp
   ·have := cut_len c s w h; simp; omega
  ·split at h
   ·simp at h; subst h; simp
   ·next a r hc =>
    rcases List.mem_cons.1 h with h | h
    ·subst h
     have := cut_len c s a (by rw [hc]; simp)
     simp; omega
    ·have := cut_len c s w (by rw [hc]; simp [h])
     simp; omega
theorem cut_cnt (c : UInt8) : ∀ (s : Bs), (cutB c s).length ≤ s.length + 1
 | [] => by simp [cutB]
 | x :: s => by
  have ih := cut_cnt c s
  unfold cutB
  split
  ·simp; omega
  ·split
   ·simp
   ·next a r hc => rw [hc] at ih; simp at ih ⊢; omega
end Go.Mw
namespace Go.Mw
open Go.Proofs
open Go.Bk
attribute [local go_sem] decide_true beq_self_eq_true bne_self_eq_false
set_option maxRecDepth 20000 in
set_option maxHeartbeats 4000000 in
theorem c_longOf_Sh (l : List Sh) (most : Nat) (h : most < l.length) (hl : l.length ≤ 1000000000000) : Contract Tryz.prog 128 [.leaf (.d (shsD l)), .int most, .leaf (.d (.fn 129 [])), .leaf (.d (.fn 130 []))] (.int 3) [] := by
 refine con_of follows_mixed Tryz.func128 rfl (by simp only [List.length_cons, List.length_nil, Tryz.ntmps128]; omega) V162 rfl ?_
 refine Exec.reg ?_
 iterate 2 (refine Run.o1 V145 ?_)
 refine Run.nil (Exec.blk (Exec.reg ?_))
 iterate 5 (refine Run.o1 V145 ?_)
 refine Run.nil ?_
 refine Exec.cnd V145 (fun hb10 => ?_) (fun hb10 => ?_)
 ·skip
  refine Exec.reg ?_
  refine Run.o1 V145 ?_
  refine Run.nil (BlkK.ret ?_)
  exact Ends.fin [] (rs := [.tmp 8]) rfl V145 (by simp only [go_sem, gt_iff_lt] <;> first | rfl | exact eqz)
 ·skip
  exact absurd (of_decide_eq_false hb10) (by omega)

set_option maxRecDepth 20000 in
theorem c_long_sheets (l : List Sh) (h : 12 < l.length) (hl : l.length ≤ 1000000000000) : Contract Tryz.prog 80 [.leaf (.d (shsD l))] (.int 3) [] := by
 refine con_of follows_mixed Tryz.func80 rfl (by simp only [List.length_cons, List.length_nil, Tryz.ntmps80]; omega) V162 rfl ?_
 refine Exec.reg ?_
 refine Run.o ?_
 refine Run.nil (Exec.reg ?_)
 refine Run.o ?_
 refine Run.c1 (c_longOf_Sh l 12 h hl) V156 V156 ?_
 refine Run.o ?_
 refine Run.nil ?_
 exact Ends.fin [] (rs := [.tmp 2]) rfl V156 V130

end Go.Mw
namespace Go.Mw
open Go.Proofs
open Go.Bk
attribute [local go_sem] decide_true beq_self_eq_true bne_self_eq_false
theorem lines_bnd {s : Bs} {ls : List Bs} (h : linesP s = some ls) : ls.length ≤ s.length + 1 ∧ ∀ w ∈ ls, w.length ≤ s.length := by
 unfold linesP at h
 split at h
 ·cases h; simp
 ·split at h
  ·cases h
   have h1 := cut_cnt 10 s.dropLast
   rw [List.length_dropLast] at h1
   refine ⟨by omega, fun w hw => ?_⟩
   have := cut_len 10 s.dropLast w hw
   rw [List.length_dropLast] at this; omega
  ·cases h
end Go.Mw
namespace Go.Bk
def cutK (c : UInt8) (s : Bs) : Nat → List Bs × Nat
 | 0 => ([], 0)
 | i + 1 => if i = s.length ∨ s[i]? = some c then ((cutK c s i).1 ++ [(s.drop (cutK c s i).2).take (i - (cutK c s i).2)], i + 1) else cutK c s i
theorem cutK_hit {c : UInt8} {s : Bs} {i : Nat} (h : i = s.length ∨ s[i]? = some c) : cutK c s (i + 1) = ((cutK c s i).1 ++ [(s.drop (cutK c s i).2).take (i - (cutK c s i).2)], i + 1) := by rw [cutK, if_pos h]
theorem cutK_mis {c : UInt8} {s : Bs} {i : Nat} (h : ¬ (i = s.length ∨ s[i]? = some c)) : cutK c s (i + 1) = cutK c s i := by rw [cutK, if_neg h]
theorem cutK_bnd (c : UInt8) (s : Bs) : ∀ i, (cutK c s i).2 ≤ i ∧ (cutK c s i).1.length ≤ i
 | 0 => by simp [cutK]
 | i + 1 => by
  have := cutK_bnd c s i
  rw [cutK]
  split
  ·simp; omega
  ·omega
theorem cutK_inv (c : UInt8) (s : Bs) : ∀ i, i ≤ s.length → (∀ k, (cutK c s i).2 ≤ k → k < i → s[k]? ≠ some c) ∧ cutB c s = (cutK c s i).1 ++ cutB c (s.drop (cutK c s i).2)
 | 0, _ => ⟨fun k _ h => by omega, by simp [cutK]⟩
 | i + 1, hi => by
  obtain ⟨h1, h2⟩ := cutK_inv c s i (by omega)
  by_cases h : i = s.length ∨ s[i]? = some c
  ·rw [cutK_hit h]
   refine ⟨fun k ha hb => by simp only at ha; omega, ?_⟩
   have hc : s[i]? = some c := by rcases h with h | h; omega; exact h
   have hb := (cutK_bnd c s i).1
   obtain ⟨f, hf⟩ : ∃ f, (cutK c s i).2 = f := ⟨_, rfl⟩
   rw [hf] at h1 h2 hb ⊢
   have hd : s.drop f = (s.drop f).take (i - f) ++ c :: s.drop (i + 1) := by
    have h3 : (s.drop f).drop (i - f) = c :: s.drop (i + 1) := by
     rw [List.drop_drop, show f + (i - f) = i by omega]
     obtain ⟨hl, hg⟩ := List.getElem?_eq_some_iff.1 hc
     rw [← hg, List.getElem_cons_drop]
    rw [← h3, List.take_append_drop]
   have hn : c ∉ (s.drop f).take (i - f) := fun hm => by
    obtain ⟨k, hk⟩ := List.getElem?_of_mem hm
    have hkl : k < i - f := by
     have := (List.getElem?_eq_some_iff.1 hk).1
     rw [List.length_take] at this; omega
    rw [List.getElem?_take, if_pos hkl, List.getElem?_drop] at hk
    exact h1 (f + k) (by omega) (by omega) hk
   have hcut : cutB c (s.drop f) = (s.drop f).take (i - f) :: cutB c (s.drop (i + 1)) := by
    conv => lhs; rw [hd]
    rw [cutB_app c _ _ hn]
   rw [h2, hcut]
   show _ = ((cutK c s i).1 ++ [(s.drop f).take (i - f)]) ++ cutB c (s.drop (i + 1))
   rw [List.append_assoc]; rfl
  ·rw [cutK_mis h]
   refine ⟨fun k ha hb => ?_, h2⟩
   by_cases hk : k = i
   ·subst hk; exact fun e => h (.inr e)
   ·exact h1 k ha (by omega)
theorem cutK_end (c : UInt8) (s : Bs) : (cutK c s (s.length + 1)).1 = cutB c s := by
 obtain ⟨h1, h2⟩ := cutK_inv c s s.length (Nat.le_refl _)
 rw [cutK_hit (.inl rfl), h2]
 have hb := (cutK_bnd c s s.length).1
 obtain ⟨f, hf⟩ : ∃ f, (cutK c s s.length).2 = f := ⟨_, rfl⟩
 rw [hf] at h1 hb ⊢
 have hn : c ∉ s.drop f := fun hm => by
  obtain ⟨k, hk⟩ := List.getElem?_of_mem hm
  have hkl := (List.getElem?_eq_some_iff.1 hk).1
  rw [List.length_drop] at hkl
  rw [List.getElem?_drop] at hk
  exact h1 (f + k) (by omega) (by omega) hk
 rw [cutB_none c _ hn]
 show _ ++ [(s.drop f).take (s.length - f)] = _
 rw [List.take_of_length_le (by rw [List.length_drop]; omega)]
theorem ext_take (s : Bs) (f i : Nat) : (s.take i).drop f = (s.drop f).take (i - f) := by rw [List.drop_take]
end Go.Bk
namespace Go.Mw
open Go.Proofs
open Go.Bk
attribute [local go_sem] decide_true beq_self_eq_true bne_self_eq_false
theorem min_cast (m a : Nat) : pick2 true (m : Int) (a : Int) = ((min m a : Nat) : Int) := by
 simp only [pick2, cond_true]
 split <;> omega
theorem min40 (a : Nat) : pick2 true 1099511627776 (a : Int) = ((min 1099511627776 a : Nat) : Int) := min_cast 1099511627776 a
theorem vst_dig {c : UInt8} (n : Nat) (h : isDig c = true) : vst n c = min 1099511627776 (10 * n + (c.toNat - 48)) := by unfold vst; rw [if_pos h, show (2 : Nat) ^ 40 = 1099511627776 by decide]
theorem vst_not {c : UInt8} (n : Nat) (h : isDig c = false) : vst n c = n := by unfold vst; rw [if_neg (by simp [h])]
set_option maxRecDepth 20000 in
theorem c_value (s : Bs) (hs : s.length ≤ 1000000000) : Contract Tryz.prog 87 [.str s] (.int (valM s)) [] := by
 have hv0 : valM [] = 0 := rfl
 refine con_of follows_mixed Tryz.func87 rfl (by simp only [List.length_cons, List.length_nil, Tryz.ntmps87]; omega) V162 rfl ?_
 refine Exec.reg ?_
 refine Run.o ?_
 refine Run.nil (Exec.reg ?_)
 refine Run.o ?_
 refine Run.nil (Exec.assocS (Exec.reg ?_))
 refine Run.o ?_
 refine Run.nil (Exec.blk ?_)
 have X := Fx.mk hv0
 refine Exec.forA [0, 3, 4] [] (s.length) (fun k => [.slot 3 (.int (valM (s.take k))), .slot 4 (.int k)]) (fun _ => True) (fun k => by simp only [go_sem] <;> rfl) (by simp only [go_sem, X.h, Int.natCast_zero, List.take_zero] <;> rfl) ?_ (fun k hk hX => ?_)
 ·trivial
 ·skip
  refine Exec.assocS (Exec.reg ?_)
  iterate 4 (refine Run.o ?_)
  refine Run.nil ?_
  refine Exec.cndS V156 (fun hb8 => ?_) (fun hb8 => ?_)
  ·skip
   have hlt : k < s.length := by simpa using hb8
   obtain ⟨c, hx⟩ : ∃ c, s[k]? = some c := ⟨_, List.getElem?_eq_getElem hlt⟩
   have hc8 := c.toNat_lt
   have hvm := valM_le (s.take k)
   refine Exec.skipS (Exec.blk ?_)
   by_cases h1 : 48 ≤ c.toNat
   ·skip
    have hd1 : decide ((c.toNat : Int) ≥ 48) = true := by first | exact decide_eq_true (by omega) | exact decide_eq_false (by omega)
    refine Exec.reg ?_
    have X := (Fx.mk hx).a hd1
    iterate 5 (refine Run.o1 V152 ?_)
    iterate 4 (refine Run.y1 V152 ?_)
    refine Run.o1 V152 ?_
    refine Run.nil ?_
    refine Exec.cnd V152 (fun hb20 => ?_) (fun hb20 => ?_)
    ·skip
     have h2 : c.toNat ≤ 57 := by have := of_decide_eq_true hb20; omega
     have hv : valM (s.take (k + 1)) = min 1099511627776 (10 * valM (s.take k) + (c.toNat - 48)) := by rw [take_snoc hx, valM_snoc, vst_dig _ (isDig_iff.2 ⟨h1, h2⟩)]
     have w1 : IntKind.u8.wrap ((c.toNat : Int) - 48) = ((c.toNat - 48 : Nat) : Int) := by rw [IntWalk.u8_in _ (by omega)]; omega
     have w2 : IntKind.i64.wrap ((c.toNat - 48 : Nat) : Int) = ((c.toNat - 48 : Nat) : Int) := IntWalk.i64_in _ (by omega)
     have w3 : IntKind.i64.wrap (10 * (valM (s.take k) : Int)) = ((10 * valM (s.take k) : Nat) : Int) := by rw [IntWalk.i64_in _ (by omega)]; omega
     have w4 : IntKind.i64.wrap (((10 * valM (s.take k) : Nat) : Int) + ((c.toNat - 48 : Nat) : Int)) = ((10 * valM (s.take k) + (c.toNat - 48) : Nat) : Int) := by rw [IntWalk.i64_in _ (by omega)]; omega
     have w5 := min40 (10 * valM (s.take k) + (c.toNat - 48))
     refine Exec.reg1 ?_
     have X := (((((X.a hv).a w1).a w2).a w3).a w4).a w5
     refine Run.o1 V152 ?_
     refine Run.o1 V59 ?_
     iterate 3 (refine Run.o1 V152 ?_)
     iterate 3 (refine Run.o1 V59 ?_)
     iterate 2 (refine Run.o1 V152 ?_)
     refine Run.nil (BlkK.nrm (Exec.reg1 ?_))
     refine Run.o1 V152 ?_
     refine Run.o1 V59 ?_
     refine Run.o1 V152 ?_
     refine Run.nil ?_
     refine ForK.nxt ?_ ?_ ?_
     ·omega
     ·exact Ghost.kp [0, 3, 4] [] V122
     ·trivial
    ·skip
     have h2 : ¬ c.toNat ≤ 57 := by have := of_decide_eq_false hb20; omega
     have hv : valM (s.take (k + 1)) = valM (s.take k) := by rw [take_snoc hx, valM_snoc, vst_not _ (by unfold isDig; rw [decide_eq_false h2, Bool.and_false])]
     refine BlkK.nrm (Exec.reg1 ?_)
     have X := X.a hv
     refine Run.o1 V152 ?_
     refine Run.o1 V59 ?_
     refine Run.o1 V152 ?_
     refine Run.nil ?_
     refine ForK.nxt ?_ ?_ ?_
     ·omega
     ·exact Ghost.kp [0, 3, 4] [] V122
     ·trivial
   ·skip
    have hd1 : decide ((c.toNat : Int) ≥ 48) = false := by first | exact decide_eq_true (by omega) | exact decide_eq_false (by omega)
    have hv : valM (s.take (k + 1)) = valM (s.take k) := by rw [take_snoc hx, valM_snoc, vst_not _ (by unfold isDig; rw [decide_eq_false h1]; rfl)]
    refine Exec.reg ?_
    have X := ((Fx.mk hx).a hd1).a hv
    iterate 5 (refine Run.o1 V152 ?_)
    iterate 4 (refine Run.s ?_)
    refine Run.o1 V152 ?_
    refine Run.nil ?_
    refine Exec.cnd V152 (fun hb20 => ?_) (fun hb20 => ?_)
    ·exact absurd hb20 (by simp)
    ·skip
     refine BlkK.nrm (Exec.reg1 ?_)
     refine Run.o1 V152 ?_
     refine Run.o1 V59 ?_
     refine Run.o1 V152 ?_
     refine Run.nil ?_
     refine ForK.nxt ?_ ?_ ?_
     ·omega
     ·exact Ghost.kp [0, 3, 4] [] V122
     ·trivial
  ·skip
   have hke : s.length ≤ k := by simpa using hb8
   have htk : s.take k = s := List.take_of_length_le hke
   refine Exec.exitS (ForK.ext (BlkK.hit (Exec.reg ?_)))
   have X := Fx.mk htk
   iterate 2 (refine Run.o1 V152 ?_)
   refine Run.nil ?_
   exact Ends.fin [] (rs := [.tmp 2]) rfl V152 V121

set_option maxRecDepth 20000 in
set_option maxHeartbeats 4000000 in
theorem c_rCut (s : Bs) (c : UInt8) (hs : s.length ≤ 1000000000) : Contract Tryz.prog 86 [.str s, .leaf (.d (.raw (.int .u8 (c.toNat : Nat))))] (.leaf (.d (strsD (cutB c s)))) [] := by
 refine con_of follows_mixed Tryz.func86 rfl (by simp only [List.length_cons, List.length_nil, Tryz.ntmps86]; omega) V162 rfl ?_
 refine Exec.reg ?_
 refine Run.o ?_
 refine Run.nil (Exec.reg ?_)
 refine Run.o ?_
 refine Run.nil (Exec.reg ?_)
 refine Run.o ?_
 refine Run.nil (Exec.assocS (Exec.reg ?_))
 refine Run.nilo 5 1000 9 1 V156 V156 (by omega) (by omega) V156 ?_
 refine Run.o ?_
 refine Run.nil (Exec.blk ?_)
 refine Exec.forA [0, 1, 5, 6, 7] [1000] (s.length + 1) (fun k => [.slot 5 (.leaf (.own 1000 0 (cutK c s k).1.length (cutK c s k).1.length)), .slot 6 (.int (cutK c s k).2), .slot 7 (.int k), .obj 1000 (.arr 9 1 ((cutK c s k).1.map encStr))]) (fun _ => True) (fun k => by simp only [go_sem] <;> rfl) (by simp only [go_sem, Int.natCast_zero, cutK, List.map_nil, List.length_nil] <;> rfl) ?_ (fun k hk hX => ?_)
 ·trivial
 ·skip
  refine Exec.assocS (Exec.reg ?_)
  iterate 4 (refine Run.o ?_)
  refine Run.nil ?_
  refine Exec.cndS V156 (fun hb11 => ?_) (fun hb11 => ?_)
  ·skip
   have hlt : k ≤ s.length := by have := of_decide_eq_true hb11; omega
   have hbd := cutK_bnd c s k
   have hxt := ext_take s (cutK c s k).2 k
   refine Exec.skipS (Exec.blk ?_)
   by_cases h1 : k = s.length
   ·skip
    have e1 : ((k : Int) == (s.length : Int)) = true := beq_iff_eq.2 (by omega)
    have hh := cutK_hit (c := c) (s := s) (i := k) (.inl h1)
    refine Exec.reg ?_
    have X := Fx.mk e1
    iterate 5 (refine Run.o1 V152 ?_)
    iterate 5 (refine Run.s ?_)
    refine Run.o1 V152 ?_
    refine Run.nil ?_
    refine Exec.cnd V152 (fun hb24 => ?_) (fun hb24 => ?_)
    ·skip
     refine Exec.reg ?_
     have X := (X.a hh).a hxt
     iterate 4 (refine Run.o1 V152 ?_)
     refine Run.o1 V77 ?_
     refine Run.o1 V152 ?_
     refine Run.o1 V6 ?_
     refine Run.o1 V152 ?_
     refine Run.nil (Exec.reg1 ?_)
     refine Run.o1 V152 ?_
     refine Run.o1 V59 ?_
     refine Run.o1 V152 ?_
     refine Run.nil (BlkK.nrm (Exec.reg1 ?_))
     refine Run.o1 V152 ?_
     refine Run.o1 V59 ?_
     refine Run.o1 V152 ?_
     refine Run.nil ?_
     refine ForK.nxt ?_ ?_ ?_
     ·omega
     ·exact Ghost.kp [0, 1, 5, 6, 7] [1000] V14
     ·trivial
    ·exact absurd hb24 (by simp)
   ·skip
    have e1 : ((k : Int) == (s.length : Int)) = false := beq_eq_false_iff_ne.2 (by omega)
    obtain ⟨x, hx⟩ : ∃ x, s[k]? = some x := ⟨_, List.getElem?_eq_getElem (by omega)⟩
    refine Exec.reg ?_
    have X := (Fx.mk hx).a e1
    iterate 5 (refine Run.o1 V152 ?_)
    iterate 5 (refine Run.y1 V152 ?_)
    refine Run.o1 V152 ?_
    refine Run.nil ?_
    refine Exec.cnd V152 (fun hb24 => ?_) (fun hb24 => ?_)
    ·skip
     have hxc : x = c := by
      have := hb24
      simp at this
      exact UInt8.toNat_inj.1 (by omega)
     have hh := cutK_hit (c := c) (s := s) (i := k) (.inr (hxc ▸ hx))
     refine Exec.reg ?_
     have X := (X.a hh).a hxt
     iterate 4 (refine Run.o1 V152 ?_)
     refine Run.o1 V77 ?_
     refine Run.o1 V152 ?_
     refine Run.o1 V6 ?_
     refine Run.o1 V152 ?_
     refine Run.nil (Exec.reg1 ?_)
     refine Run.o1 V152 ?_
     refine Run.o1 V59 ?_
     refine Run.o1 V152 ?_
     refine Run.nil (BlkK.nrm (Exec.reg1 ?_))
     refine Run.o1 V152 ?_
     refine Run.o1 V59 ?_
     refine Run.o1 V152 ?_
     refine Run.nil ?_
     refine ForK.nxt ?_ ?_ ?_
     ·omega
     ·exact Ghost.kp [0, 1, 5, 6, 7] [1000] V14
     ·trivial
    ·skip
     have hxc : x ≠ c := fun h => by subst h; simp at hb24
     have hh := cutK_mis (c := c) (s := s) (i := k) (fun h => h.elim h1 fun h => by rw [hx] at h; exact hxc (Option.some.inj h))
     refine BlkK.nrm (Exec.reg1 ?_)
     have X := X.a hh
     refine Run.o1 V152 ?_
     refine Run.o1 V59 ?_
     refine Run.o1 V152 ?_
     refine Run.nil ?_
     refine ForK.nxt ?_ ?_ ?_
     ·omega
     ·exact Ghost.kp [0, 1, 5, 6, 7] [1000] V122
     ·trivial
  ·skip
   have hke : k = s.length + 1 := by have := of_decide_eq_false hb11; omega
   subst hke
   have hce := cutK_end c s
   have htk : List.take (cutB c s).length (List.map encStr (cutB c s)) = List.map encStr (cutB c s) := List.take_of_length_le (by simp)
   refine Exec.exitS (ForK.ext (BlkK.hit (Exec.reg ?_)))
   have X := Fx.mk htk
   refine Run.frz 1000 V152 ?_
   have X := (Fx.mk hce).a htk
   iterate 2 (refine Run.o1 V152 ?_)
   refine Run.nil ?_
   exact Ends.fin [] (rs := [.tmp 4]) rfl V152 V121

end Go.Mw
namespace Go.Mw
open Go.Proofs
open Go.Bk
attribute [local go_sem] decide_true beq_self_eq_true bne_self_eq_false
theorem sheet_bad {l : List Sh} {k : Nat} {x : Sh} (hx : l[k]? = some x) (h : ¬ sheetOK x = true) : l.all sheetOK = false := by
 cases h2 : l.all sheetOK with
 | false => rfl
 | true => exact absurd (all_at h2 hx) h
theorem sheetOK_iff {x : Sh} : sheetOK x = true ↔ inD x.meter 1 999999 = true ∧ x.tries.length ≤ 6 ∧ x.tries.all tryOK = true := by
 unfold sheetOK
 simp only [Bool.and_eq_true, decide_eq_true_eq, and_assoc]
theorem tryOK_iff {t : Tr} : tryOK t = true ↔ inD t.flow 1 100000 = true ∧ inD t.pour 0 9999999 = true ∧ inD t.shown 0 9999999 = true := by
 unfold tryOK
 simp only [Bool.and_eq_true, and_assoc]
theorem try_bad {x : Sh} {j : Nat} {t : Tr} (ht : x.tries[j]? = some t) (h : ¬ tryOK t = true) : ¬ sheetOK x = true := fun hs => h (List.all_eq_true.1 (sheetOK_iff.1 hs).2.2 t (List.mem_of_getElem? ht))
set_option maxRecDepth 20000 in
set_option maxHeartbeats 16000000 in
theorem c_ref_Sheets (l : List Sh) (hl : l.length ≤ 1000000000) (hz : ∀ x ∈ l, x.tries.length ≤ 1000000000) : Contract Tryz.prog 38 [.leaf (.d (shsD l))] (.int (sheetsE l)) [] := by
 have hpe : sheetsE l = errB l.length 12 (l.all sheetOK) (rises (l.map Sh.meter)) := rfl
 refine con_of follows_mixed Tryz.func38 rfl (by simp only [List.length_cons, List.length_nil, Tryz.ntmps38]; omega) V162 rfl ?_
 refine Exec.reg ?_
 refine Run.o ?_
 refine Run.nil (Exec.assocS (Exec.reg ?_))
 iterate 3 (refine Run.o ?_)
 refine Run.nil ?_
 refine Exec.cndS V156 (fun hb9 => ?_) (fun hb9 => ?_)
 ·skip
  have h1 : 12 < l.length := by have := of_decide_eq_true hb9; omega
  have hr := err3 (l.all sheetOK) (rises (l.map Sh.meter)) h1
  refine Exec.assocS (Exec.reg ?_)
  have X := (Fx.mk hpe).a hr
  refine Run.o1 V152 ?_
  refine Run.nil (Exec.retS ?_)
  exact Ends.fin [] (rs := [.tmp 2]) rfl V152 V121
 ·skip
  have hle : l.length ≤ 12 := by have := of_decide_eq_false hb9; omega
  refine Exec.skipS (Exec.assocS (Exec.reg ?_))
  refine Run.o ?_
  refine Run.nil (Exec.blk ?_)
  refine Exec.forA [0, 3] [] (l.length) (fun k => [.slot 3 (.int k)]) (fun k => (l.take k).all sheetOK = true) (fun k => by simp only [go_sem] <;> rfl) V135 ?_ (fun k hk hX => ?_)
  ·rfl
  ·skip
   refine Exec.assocS (Exec.reg ?_)
   iterate 4 (refine Run.o ?_)
   refine Run.nil ?_
   refine Exec.cndS V156 (fun hb13 => ?_) (fun hb13 => ?_)
   ·skip
    have hlt := lt_of_dec hb13
    obtain ⟨x, hx⟩ := elem_of hb13
    have hxz := hz x (List.mem_of_getElem? hx)
    refine Exec.skipS (Exec.blk (Exec.assocS ?_))
    by_cases g1 : inD x.meter 1 999999 = true
    ·skip
     refine Exec.reg ?_
     have X := (Fx.mk hx).a g1
     iterate 2 (refine Run.o1 V132 ?_)
     refine Run.o1 V64 ?_
     iterate 2 (refine Run.o1 V132 ?_)
     refine Run.c1 (c_ref_in x.meter 1 999999) V132 V132 ?_
     iterate 2 (refine Run.o1 V132 ?_)
     iterate 2 (refine Run.y1 V132 ?_)
     refine Run.y1 V64 ?_
     iterate 4 (refine Run.y1 V132 ?_)
     refine Run.o1 V132 ?_
     refine Run.nil ?_
     refine Exec.cndS V132 (fun hb31 => ?_) (fun hb31 => ?_)
     ·skip
      have h6 : ¬ x.tries.length ≤ 6 := by have := of_decide_eq_true hb31; omega
      have hna := sheet_bad hx (fun h => h6 (sheetOK_iff.1 h).2.1)
      have hr := err1 (rises (l.map Sh.meter)) hle
      refine Exec.assocS (Exec.reg ?_)
      have X := ((X.a hpe).a hna).a hr
      refine Run.o1 V132 ?_
      refine Run.nil (Exec.retS (BlkK.ret (ForK.ret (BlkK.ret ?_))))
      exact Ends.fin [] (rs := [.tmp 2]) rfl V132 (by simp only [go_sem, X.h, Bool.not_true] <;> first | rfl | exact eqz)
     ·skip
      have h6 : x.tries.length ≤ 6 := by have := of_decide_eq_false hb31; omega
      refine Exec.skipS (Exec.reg ?_)
      refine Run.o1 V132 ?_
      refine Run.nil (Exec.blk1 ?_)
      refine Exec.forA [0, 3, 4] [] (x.tries.length) (fun j => [.slot 4 (.int j)]) (fun j => (x.tries.take j).all tryOK = true) (fun j => by simp only [go_sem] <;> rfl) (by simp only [go_sem, X.h, Bool.not_true, Int.natCast_zero] <;> rfl) ?_ (fun j hj Xj => ?_)
      ·exact rfl
      ·skip
       refine Exec.assocS (Exec.reg ?_)
       iterate 3 (refine Run.o1 V132 ?_)
       refine Run.o1 V64 ?_
       iterate 4 (refine Run.o1 V132 ?_)
       refine Run.nil ?_
       refine Exec.cndS V132 (fun hb39 => ?_) (fun hb39 => ?_)
       ·skip
        have hlt2 := lt_of_dec hb39
        obtain ⟨t, ht⟩ := elem_of hb39
        refine Exec.skipS (Exec.blk (Exec.reg ?_))
        have X := X.a ht
        iterate 2 (refine Run.o1 V132 ?_)
        refine Run.o1 V64 ?_
        iterate 3 (refine Run.o1 V132 ?_)
        refine Run.o1 V64 ?_
        iterate 3 (refine Run.o1 V132 ?_)
        refine Run.nil ?_
        by_cases q1 : inD t.flow 1 100000 = true
        ·skip
         by_cases q2 : inD t.pour 0 9999999 = true
         ·skip
          by_cases q3 : inD t.shown 0 9999999 = true
          ·skip
           refine Exec.reg ?_
           have X := ((X.a q1).a q2).a q3
           iterate 2 (refine Run.o1 V83 ?_)
           refine Run.c1 (c_ref_in t.flow 1 100000) V83 V83 ?_
           iterate 2 (refine Run.o1 V83 ?_)
           iterate 2 (refine Run.y1 V83 ?_)
           refine Run.calw V156 (c_ref_in t.pour 0 9999999) V158 V83 V83 V19 (fr0) V83 ?_
           refine Run.y1 V83 ?_
           iterate 2 (refine Run.o1 V83 ?_)
           iterate 2 (refine Run.y1 V83 ?_)
           refine Run.calw V156 (c_ref_in t.shown 0 9999999) V158 V83 V83 V19 (fr0) V83 ?_
           refine Run.y1 V83 ?_
           refine Run.o1 V83 ?_
           refine Run.nil ?_
           refine Exec.cnd V83 (fun hb65 => ?_) (fun hb65 => ?_)
           ·exact absurd hb65 (by simp)
           ·skip
            have hto : tryOK t = true := tryOK_iff.2 ⟨q1, q2, q3⟩
            refine BlkK.nrm (Exec.reg1 ?_)
            refine Run.o1 V83 ?_
            refine Run.o1 (by simp only [go_sem, X.h, Bool.not_true, Bool.not_true, Bool.not_true, Bool.not_true]; (try simp (disch := omega) only [IntWalk.i64_in, IntWalk.u64_in, IntWalk.i32_in, IntWalk.u8_in, if_neg, if_pos])<;> rfl) ?_
            refine Run.o1 V83 ?_
            refine Run.nil ?_
            refine ForK.nxt ?_ ?_ ?_
            ·omega
            ·exact Ghost.kp [0, 3, 4] [] (by simp only [go_sem, X.h, Bool.not_true, Bool.not_true, Bool.not_true, Bool.not_true] <;> first | exact eqz | rfl)
            ·exact by rw [take_snoc ht, List.all_append, Xj]; simp [hto]
          ·skip
           have q30 : inD t.shown 0 9999999 = false := by simpa using q3
           refine Exec.reg ?_
           have X := ((X.a q1).a q2).a q30
           iterate 2 (refine Run.o1 V82 ?_)
           refine Run.c1 (c_ref_in t.flow 1 100000) V82 V82 ?_
           iterate 2 (refine Run.o1 V82 ?_)
           iterate 2 (refine Run.y1 V82 ?_)
           refine Run.calw V156 (c_ref_in t.pour 0 9999999) V158 V82 V82 V19 (fr0) V82 ?_
           refine Run.y1 V82 ?_
           iterate 2 (refine Run.o1 V82 ?_)
           iterate 2 (refine Run.y1 V82 ?_)
           refine Run.calw V156 (c_ref_in t.shown 0 9999999) V158 V82 V82 V19 (fr0) V82 ?_
           refine Run.y1 V82 ?_
           refine Run.o1 V82 ?_
           refine Run.nil ?_
           refine Exec.cnd V82 (fun hb65 => ?_) (fun hb65 => ?_)
           ·skip
            have hna := sheet_bad hx (try_bad ht fun h => q3 (tryOK_iff.1 h).2.2)
            have hr := err1 (rises (l.map Sh.meter)) hle
            refine Exec.reg ?_
            have X := ((X.a hpe).a hna).a hr
            refine Run.o1 V82 ?_
            refine Run.nil (BlkK.ret (ForK.ret (Blk1K.ret (BlkK.ret (ForK.ret (BlkK.ret ?_))))))
            exact Ends.fin [] (rs := [.tmp 2]) rfl V82 (by simp only [go_sem, X.h, Bool.not_true, Bool.not_true, Bool.not_true, Bool.not_false] <;> first | rfl | exact eqz)
           ·exact absurd hb65 (by simp)
         ·skip
          have q20 : inD t.pour 0 9999999 = false := by simpa using q2
          refine Exec.reg ?_
          have X := (X.a q1).a q20
          iterate 2 (refine Run.o1 V89 ?_)
          refine Run.c1 (c_ref_in t.flow 1 100000) V89 V89 ?_
          iterate 2 (refine Run.o1 V89 ?_)
          iterate 2 (refine Run.y1 V89 ?_)
          refine Run.calw V156 (c_ref_in t.pour 0 9999999) V158 V89 V89 V19 (fr0) V89 ?_
          refine Run.y1 V89 ?_
          iterate 2 (refine Run.o1 V89 ?_)
          iterate 4 (refine Run.s ?_)
          refine Run.o1 V89 ?_
          refine Run.nil ?_
          refine Exec.cnd V89 (fun hb65 => ?_) (fun hb65 => ?_)
          ·skip
           have hna := sheet_bad hx (try_bad ht fun h => q2 (tryOK_iff.1 h).2.1)
           have hr := err1 (rises (l.map Sh.meter)) hle
           refine Exec.reg ?_
           have X := ((X.a hpe).a hna).a hr
           refine Run.o1 V89 ?_
           refine Run.nil (BlkK.ret (ForK.ret (Blk1K.ret (BlkK.ret (ForK.ret (BlkK.ret ?_))))))
           exact Ends.fin [] (rs := [.tmp 2]) rfl V89 (by simp only [go_sem, X.h, Bool.not_true, Bool.not_true, Bool.not_false] <;> first | rfl | exact eqz)
          ·exact absurd hb65 (by simp)
        ·skip
         have q10 : inD t.flow 1 100000 = false := by simpa using q1
         refine Exec.reg ?_
         have X := X.a q10
         iterate 2 (refine Run.o1 V111 ?_)
         refine Run.c1 (c_ref_in t.flow 1 100000) V111 V111 ?_
         iterate 2 (refine Run.o1 V111 ?_)
         iterate 4 (refine Run.s ?_)
         iterate 2 (refine Run.o1 V111 ?_)
         iterate 4 (refine Run.s ?_)
         refine Run.o1 V111 ?_
         refine Run.nil ?_
         refine Exec.cnd V111 (fun hb65 => ?_) (fun hb65 => ?_)
         ·skip
          have hna := sheet_bad hx (try_bad ht fun h => q1 (tryOK_iff.1 h).1)
          have hr := err1 (rises (l.map Sh.meter)) hle
          refine Exec.reg ?_
          have X := ((X.a hpe).a hna).a hr
          refine Run.o1 V111 ?_
          refine Run.nil (BlkK.ret (ForK.ret (Blk1K.ret (BlkK.ret (ForK.ret (BlkK.ret ?_))))))
          exact Ends.fin [] (rs := [.tmp 2]) rfl V111 (by simp only [go_sem, X.h, Bool.not_true, Bool.not_false] <;> first | rfl | exact eqz)
         ·exact absurd hb65 (by simp)
       ·skip
        have hjn := ge_of_dec hb39
        rw [List.take_of_length_le hjn] at Xj
        have hok : sheetOK x = true := sheetOK_iff.2 ⟨g1, h6, Xj⟩
        refine Exec.exitS (ForK.ext (Blk1K.hit (BlkK.nrm (Exec.reg1 ?_))))
        refine Run.o1 V132 ?_
        refine Run.o1 (by simp only [go_sem, X.h, Bool.not_true]; (try simp (disch := omega) only [IntWalk.i64_in, IntWalk.u64_in, IntWalk.i32_in, IntWalk.u8_in, if_neg, if_pos])<;> rfl) ?_
        refine Run.o1 V132 ?_
        refine Run.nil ?_
        refine ForK.nxt ?_ ?_ ?_
        ·omega
        ·exact Ghost.kp [0, 3] [] (by simp only [go_sem, X.h, Bool.not_true] <;> first | exact eqz | rfl)
        ·exact by rw [take_snoc hx, List.all_append, hX]; simp [hok]
    ·skip
     have h1 : inD x.meter 1 999999 = false := by simpa using g1
     refine Exec.reg ?_
     have X := (Fx.mk hx).a h1
     iterate 2 (refine Run.o1 V129 ?_)
     refine Run.o1 (by simp only [go_sem, X.h, Bool.not_false]; (try simp (disch := omega) only [if_pos]); (try simp only [go_sem, X.h, Bool.not_false])<;> rfl) ?_
     iterate 2 (refine Run.o1 V129 ?_)
     refine Run.c1 (c_ref_in x.meter 1 999999) V129 V129 ?_
     iterate 2 (refine Run.o1 V129 ?_)
     iterate 7 (refine Run.s ?_)
     refine Run.o1 V129 ?_
     refine Run.nil ?_
     refine Exec.cndS V129 (fun hb31 => ?_) (fun hb31 => ?_)
     ·skip
      have hna := sheet_bad hx (fun h => g1 (sheetOK_iff.1 h).1)
      have hr := err1 (rises (l.map Sh.meter)) hle
      refine Exec.assocS (Exec.reg ?_)
      have X := ((X.a hpe).a hna).a hr
      refine Run.o1 V129 ?_
      refine Run.nil (Exec.retS (BlkK.ret (ForK.ret (BlkK.ret ?_))))
      exact Ends.fin [] (rs := [.tmp 2]) rfl V129 (by simp only [go_sem, X.h, Bool.not_false] <;> first | rfl | exact eqz)
     ·exact absurd hb31 (by simp)
   ·skip
    have hall : l.all sheetOK = true := by have := ge_of_dec hb13; rw [List.take_of_length_le this] at hX; exact hX
    refine Exec.exitS (ForK.ext (BlkK.hit (Exec.assocS (Exec.reg ?_))))
    refine Run.o ?_
    refine Run.nil (Exec.blk ?_)
    refine Exec.forA [0, 6] [] (l.length) (fun i => [.slot 6 (.int (1 + (i : Int)))]) (fun i => riseT (l.map Sh.meter) (1 + i)) (fun i => by simp only [go_sem] <;> rfl) (by simp only [go_sem, Int.natCast_zero, Int.add_zero] <;> rfl) ?_ (fun i hi Xi => ?_)
    ·exact rise_one _
    ·skip
     refine Exec.assocS (Exec.reg ?_)
     iterate 4 (refine Run.o ?_)
     refine Run.nil ?_
     refine Exec.cndS V156 (fun hb69 => ?_) (fun hb69 => ?_)
     ·skip
      have hjl : 1 + i < l.length := by have := of_decide_eq_true hb69; omega
      obtain ⟨x, hx⟩ : ∃ x, l[1 + i]? = some x := ⟨_, List.getElem?_eq_getElem hjl⟩
      obtain ⟨y, hy⟩ : ∃ y, l[1 + i - 1]? = some y := ⟨_, List.getElem?_eq_getElem (by omega)⟩
      have hy2 : l[i]? = some y := by rw [← hy]; congr 1; omega
      have t1 : ((1 : Int) + (i : Int) - 1).toNat = i := by omega
      have t2 : ((1 : Int) + (i : Int)).toNat = 1 + i := by omega
      refine Exec.skipS (Exec.blk ?_)
      refine Exec.opk 14 ?_
      have X := (((Fx.mk hx).a hy2).a t1).a t2
      iterate 2 (refine OpenK.o1 V152 ?_)
      refine OpenK.o1 V77 ?_
      iterate 4 (refine OpenK.o1 V152 ?_)
      refine OpenK.o1 V59 ?_
      refine OpenK.o1 V77 ?_
      iterate 3 (refine OpenK.o1 V152 ?_)
      refine OpenK.nil (OpenE.fin V160 V160 ?_)
      refine Exec.cnd V152 (fun hb83 => ?_) (fun hb83 => ?_)
      ·skip
       have hno := rise_no (f := Sh.meter) (k := 1 + i) (by omega) hx hy (by have := of_decide_eq_true hb83; omega)
       have hr := err7 hle
       refine Exec.reg ?_
       have X := (((X.a hpe).a hall).a hno).a hr
       refine Run.o1 V152 ?_
       refine Run.nil (BlkK.ret (ForK.ret (BlkK.ret ?_)))
       exact Ends.fin [] (rs := [.tmp 2]) rfl V152 V121
      ·skip
       refine BlkK.nrm (Exec.reg1 ?_)
       refine Run.o1 V152 ?_
       refine Run.o1 V59 ?_
       refine Run.o1 V152 ?_
       refine Run.nil ?_
       refine ForK.nxt ?_ ?_ ?_
       ·omega
       ·exact Ghost.kp [0, 6] [] V122
       ·exact rise_step Xi hx hy (by have := of_decide_eq_false hb83; omega)
     ·skip
      have hno := rise_done Xi (by have := of_decide_eq_false hb69; omega)
      have hr := err0 hle
      refine Exec.exitS (ForK.ext (BlkK.hit (Exec.reg ?_)))
      have X := (((Fx.mk hpe).a hall).a hno).a hr
      refine Run.o1 V152 ?_
      refine Run.nil ?_
      exact Ends.fin [] (rs := [.tmp 2]) rfl V152 V121

end Go.Mw
namespace Go.Bk
def foldK (f : List Sh → Bs → Option (List Sh)) (ls : List Bs) (k : Nat) : Option (List Sh) := (ls.take k).foldlM f []
theorem foldK_zero (f : List Sh → Bs → Option (List Sh)) (ls : List Bs) : foldK f ls 0 = some [] := by simp [foldK]
theorem foldK_step {f : List Sh → Bs → Option (List Sh)} {ls : List Bs} {k : Nat} {s : Bs} {l : List Sh} (hs : ls[k]? = some s) (h : foldK f ls k = some l) : foldK f ls (k + 1) = f l s := by
 unfold foldK at h ⊢
 rw [List.take_add_one, hs, List.foldlM_append, h]
 simp
theorem foldK_all {f : List Sh → Bs → Option (List Sh)} {ls : List Bs} : foldK f ls ls.length = ls.foldlM f [] := by unfold foldK; rw [List.take_length]
theorem fold_none {f : List Sh → Bs → Option (List Sh)} {ls : List Bs} {k : Nat} (h : foldK f ls k = none) : ls.foldlM f [] = none := by
 unfold foldK at h
 rw [← List.take_append_drop k ls, List.foldlM_append, h]; rfl
theorem snoc_or {α : Type} (l : List α) : l = [] ∨ ∃ l' x, l = l' ++ [x] := by
 cases h : l.getLast? with
 | none => exact .inl (by simpa using h)
 | some x =>
  obtain ⟨l', hl⟩ := List.getLast?_eq_some_iff.1 h
  exact .inr ⟨l', x, hl⟩
def lastT (l : List Sh) : List Tr := match l.getLast? with
 | some x => x.tries
 | none => []
theorem lastT_nil : lastT [] = [] := rfl
theorem lastT_snoc (l : List Sh) (x : Sh) : lastT (l ++ [x]) = x.tries := by simp [lastT]
theorem stepL_hit {l : List Sh} {s : Bs} (h1 : s.length = 9) (h2 : s.head? = some 35) : stepL l s = some (l ++ [⟨valM (s.take 7), []⟩]) := by unfold stepL; rw [if_pos ⟨h1, h2⟩]
theorem stepL_no {l : List Sh} {s : Bs} (h1 : ¬ (s.length = 9 ∧ s.head? = some 35)) (h2 : s.length ≠ 24 ∨ l = []) : stepL l s = none := by unfold stepL; rw [if_neg h1, if_pos h2]
theorem stepL_one {l : List Sh} {x : Sh} {s : Bs} (h1 : ¬ (s.length = 9 ∧ s.head? = some 35)) (h2 : s.length = 24) : stepL (l ++ [x]) s = some (l ++ [⟨x.meter, x.tries ++ [⟨valM (s.take 6), valM ((s.drop 7).take 7), valM ((s.drop 15).take 7)⟩]⟩]) := by
 unfold stepL
 rw [if_neg h1, if_neg (by simp [h2]), addT_snoc]
def bndT (n : Nat) (l : List Sh) : Prop := l.length ≤ n ∧ ∀ x ∈ l, x.tries.length ≤ n
theorem bndT_nil : bndT 0 [] := ⟨by simp, by simp⟩
theorem bndT_new {n : Nat} {l : List Sh} (h : bndT n l) (m : Int) : bndT (n + 1) (l ++ [⟨m, []⟩]) := by
 refine ⟨by have := h.1; simp; omega, fun x hx => ?_⟩
 rcases List.mem_append.1 hx with hx | hx
 ·have := h.2 x hx; omega
 ·have : x = ⟨m, []⟩ := by simpa using hx
  subst this; simp
theorem bndT_try {n : Nat} {l : List Sh} {x : Sh} (h : bndT n (l ++ [x])) (t : Tr) : bndT (n + 1) (l ++ [⟨x.meter, x.tries ++ [t]⟩]) := by
 refine ⟨by have := h.1; simp at this ⊢; omega, fun y hy => ?_⟩
 rcases List.mem_append.1 hy with hy | hy
 ·have := h.2 y (by simp [hy]); omega
 ·have : y = ⟨x.meter, x.tries ++ [t]⟩ := by simpa using hy
  subst this
  have := h.2 x (by simp)
  simp; omega
end Go.Bk
namespace Go.Mw
open Go.Proofs
open Go.Bk
attribute [local go_sem] decide_true beq_self_eq_true bne_self_eq_false
set_option maxRecDepth 20000 in
set_option maxHeartbeats 16000000 in
theorem c_ref_WriteSheets (l : List Sh) (hl : l.length ≤ 1000000000) (hz : ∀ x ∈ l, x.tries.length ≤ 1000000000) : Contract Tryz.prog 35 [.leaf (.d (shsD l))] (strE (wSheets l) (sheetsE l)) [] := by
 refine con_of follows_mixed Tryz.func35 rfl (by simp only [List.length_cons, List.length_nil, Tryz.ntmps35]; omega) V162 rfl ?_
 refine Exec.reg ?_
 iterate 2 (refine Run.o ?_)
 refine Run.nil (Exec.reg ?_)
 refine Run.o ?_
 refine Run.c1 (c_ref_Sheets l hl hz) V156 V156 ?_
 refine Run.o ?_
 refine Run.nil (Exec.assocS (Exec.reg ?_))
 iterate 2 (refine Run.o ?_)
 refine Run.nil ?_
 refine Exec.cndS V156 (fun hb12 => ?_) (fun hb12 => ?_)
 ·skip
  have hne : sheetsE l ≠ 0 := by simpa using hb12
  have hr : wSheets l = [] := if_neg hne
  refine Exec.assocS (Exec.reg ?_)
  have X := Fx.mk hr
  iterate 3 (refine Run.o1 V144 ?_)
  refine Run.nil (Exec.retS ?_)
  exact Ends.fin [] (rs := [.tmp 2, .tmp 3]) rfl V144 V113
 ·skip
  have he0 : sheetsE l = 0 := by simpa using hb12
  have hr : wSheets l = sheetsB l := if_pos he0
  obtain ⟨h12, hok, _⟩ := errB_ok he0
  have hz0 : sheetsB [] = [] := rfl
  refine Exec.skipS (Exec.reg ?_)
  refine Run.o ?_
  refine Run.nil (Exec.assocS (Exec.reg ?_))
  refine Run.o ?_
  refine Run.nil (Exec.blk ?_)
  have X := Fx.mk hz0
  refine Exec.forA [0, 5, 6] [] (l.length) (fun k => [.slot 5 (.str (sheetsB (l.take k))), .slot 6 (.int k)]) (fun _ => True) (fun k => by simp only [go_sem] <;> rfl) (by simp only [go_sem, X.h, Int.natCast_zero, List.take_zero] <;> rfl) ?_ (fun k hk hX => ?_)
  ·trivial
  ·skip
   refine Exec.assocS (Exec.reg ?_)
   iterate 4 (refine Run.o ?_)
   refine Run.nil ?_
   refine Exec.cndS V156 (fun hb17 => ?_) (fun hb17 => ?_)
   ·skip
    have hlt := lt_of_dec hb17
    obtain ⟨x, hx⟩ := elem_of hb17
    have hxok := all_at hok hx
    obtain ⟨hm0, htn, hta⟩ := sheetOK_iff.1 hxok
    have hm1 := inD_iff.1 hm0
    have hhl := head_len (m := x.meter) (by omega) (by omega)
    have hpl : (pad 48 6 (txt x.meter.toNat)).length = 6 := pad_len _ (txt_len (by omega) (by omega))
    have hbk := sheetsB_bnd _ (all_take k hok)
    have hbl : (l.take k).length ≤ 12 := by rw [List.length_take]; omega
    have hhd : [35] ++ pad 48 6 (txt x.meter.toNat) = headSh x.meter := rfl
    have hw6 := c_ref_wide (txt x.meter.toNat) 48 6 (by have := txt_len (n := x.meter.toNat) (k := 20) (by omega) (by omega); omega) (by omega)
    have hfl : (full (headSh x.meter)).length = 9 := by rw [full_len, hhl]
    have hw0 : wrT (sheetsB (l.take k)) x 0 = (sheetsB (l.take k)) ++ (full (headSh x.meter) ++ [10]) := by rw [wrT_zero, List.append_assoc]
    refine Exec.skipS (Exec.blk (Exec.reg ?_))
    have X := (Fx.mk hx).a hhd
    iterate 3 (refine Run.o1 V152 ?_)
    refine Run.o1 V77 ?_
    iterate 2 (refine Run.o1 V152 ?_)
    refine Run.c1 (c_TextI x.meter (by omega) (by omega)) V152 V152 ?_
    refine Run.c1 (hw6) V152 V152 ?_
    refine Run.o1 V59 ?_
    refine Run.c1 (c_ref_checked (headSh x.meter) (by omega)) V152 V152 ?_
    refine Run.o1 V59 ?_
    refine Run.o1 V152 ?_
    refine Run.nil (Exec.reg ?_)
    refine Run.o1 V152 ?_
    refine Run.nil (Exec.blk1 ?_)
    have X := X.a hw0
    refine Exec.forA [0, 5, 6, 7] [] (x.tries.length) (fun j => [.slot 5 (.str (wrT (sheetsB (l.take k)) x j)), .slot 7 (.int j)]) (fun _ => True) (fun j => by simp only [go_sem] <;> rfl) V125 ?_ (fun j hj Xj => ?_)
    ·trivial
    ·skip
     refine Exec.assocS (Exec.reg ?_)
     have X := (Fx.mk hx).a hhd
     iterate 3 (refine Run.o1 V152 ?_)
     refine Run.o1 V77 ?_
     iterate 4 (refine Run.o1 V152 ?_)
     refine Run.nil ?_
     refine Exec.cndS V152 (fun hb38 => ?_) (fun hb38 => ?_)
     ·skip
      have hlt2 := lt_of_dec hb38
      obtain ⟨t, ht0⟩ := elem_of hb38
      have ht := all_at hta ht0
      have htl := row_len ht
      obtain ⟨hp1, hp2, hp3⟩ := pads_len ht
      obtain ⟨ho1, ho2, ho3⟩ := tryOK_iff.1 ht
      have hi1 := inD_iff.1 ho1
      have hi2 := inD_iff.1 ho2
      have hi3 := inD_iff.1 ho3
      have hv1 := c_ref_wide (txt t.flow.toNat) 32 6 (by have := txt_len (n := t.flow.toNat) (k := 20) (by omega) (by omega); omega) (by omega)
      have hv2 := c_ref_wide (txt t.pour.toNat) 32 7 (by have := txt_len (n := t.pour.toNat) (k := 20) (by omega) (by omega); omega) (by omega)
      have hv3 := c_ref_wide (txt t.shown.toNat) 32 7 (by have := txt_len (n := t.shown.toNat) (k := 20) (by omega) (by omega); omega) (by omega)
      have hwb := wrT_bnd (b := (sheetsB (l.take k))) hxok j
      have hft : (full (Bk.rowT t)).length = 24 := full_bnd ht
      have hws : wrT (sheetsB (l.take k)) x (j + 1) = wrT (sheetsB (l.take k)) x j ++ (full (Bk.rowT t) ++ [10]) := by rw [wrT_step ht0, List.append_assoc]
      have hrow : pad 32 6 (txt t.flow.toNat) ++ [32] ++ pad 32 7 (txt t.pour.toNat) ++ [32] ++ pad 32 7 (txt t.shown.toNat) = Bk.rowT t := by unfold Bk.rowT; simp
      refine Exec.skipS (Exec.blk (Exec.reg ?_))
      have X := ((X.a ht0).a hrow).a hws
      iterate 2 (refine Run.o1 V152 ?_)
      refine Run.o1 V77 ?_
      iterate 3 (refine Run.o1 V152 ?_)
      refine Run.o1 V77 ?_
      iterate 3 (refine Run.o1 V152 ?_)
      refine Run.nil ?_
      refine Exec.opk1 22 ?_
      iterate 3 (refine OpenK.o1 V152 ?_)
      refine OpenK.cal (c_TextI t.flow (by omega) (by omega)) V158 V152 V66 (fr0) V152 V156 V156 ?_
      refine OpenK.cal (hv1) V158 V152 V19 (fr0) V152 V156 V156 ?_
      refine OpenK.o1 V59 ?_
      iterate 2 (refine OpenK.o1 V152 ?_)
      refine OpenK.cal (c_TextI t.pour (by omega) (by omega)) V158 V152 V66 (fr0) V152 V156 V156 ?_
      refine OpenK.cal (hv2) V158 V152 V19 (fr0) V152 V156 V156 ?_
      iterate 2 (refine OpenK.o1 V59 ?_)
      iterate 2 (refine OpenK.o1 V152 ?_)
      refine OpenK.cal (c_TextI t.shown (by omega) (by omega)) V158 V152 V66 (fr0) V152 V156 V156 ?_
      refine OpenK.cal (hv3) V158 V152 V19 (fr0) V152 V156 V156 ?_
      refine OpenK.o1 V59 ?_
      refine OpenK.cal (c_ref_checked (Bk.rowT t) (by omega)) V158 V152 V66 (fr0) V152 V156 V156 ?_
      refine OpenK.o1 V59 ?_
      refine OpenK.o1 V152 ?_
      refine OpenK.nil (OpenE.finT V162 V162 V162 ?_)
      refine BlkK.nrm (Exec.reg1 ?_)
      refine Run.o1 V152 ?_
      refine Run.o1 V59 ?_
      refine Run.o1 V152 ?_
      refine Run.nil ?_
      refine ForK.nxt ?_ ?_ ?_
      ·omega
      ·exact Ghost.kp [0, 5, 6, 7] [] V122
      ·trivial
     ·skip
      have hje : j = x.tries.length := by have := ge_of_dec hb38; omega
      subst hje
      have hwe := wrT_end hx
      refine Exec.exitS (ForK.ext (Blk1K.hit (BlkK.nrm (Exec.reg1 ?_))))
      have X := X.a hwe
      refine Run.o1 V152 ?_
      refine Run.o1 V59 ?_
      refine Run.o1 V152 ?_
      refine Run.nil ?_
      refine ForK.nxt ?_ ?_ ?_
      ·omega
      ·exact Ghost.kp [0, 5, 6] [] V122
      ·trivial
   ·skip
    have hke : l.length ≤ k := ge_of_dec hb17
    have htk : l.take k = l := List.take_of_length_le hke
    refine Exec.exitS (ForK.ext (BlkK.hit (Exec.reg ?_)))
    have X := ((Fx.mk htk).a hr).a he0
    iterate 3 (refine Run.o1 V144 ?_)
    refine Run.nil ?_
    exact Ends.fin [] (rs := [.tmp 2, .tmp 3]) rfl V144 V113

end Go.Mw
namespace Go.Mw
open Go.Proofs
open Go.Bk
attribute [local go_sem] decide_true beq_self_eq_true bne_self_eq_false
def rowsV (l : List Sh) (v : Value) : List (List D) := match l.getLast? with
 | some x => l.dropLast.map encSh ++ [[.i x.meter, .raw v]]
 | none => []
theorem rowsV_nil (v : Value) : rowsV [] v = [] := rfl
theorem rowsV_snoc (l : List Sh) (x : Sh) (v : Value) : rowsV (l ++ [x]) v = l.map encSh ++ [[.i x.meter, .raw v]] := by simp [rowsV]
theorem rows_back (l : List Sh) (x : Sh) : l.map encSh ++ [[D.i x.meter, trsD x.tries]] = (l ++ [x]).map encSh := by simp [encSh]
theorem rows_at (l : List Sh) (d : List D) : (l.map encSh ++ [d])[l.length]? = some d := by simp
theorem rows_set (l : List Sh) (d d' : List D) : (l.map encSh ++ [d]).set l.length d' = l.map encSh ++ [d'] := by
 rw [List.set_append_right _ _ (by simp)]; simp
theorem rowsV_len (l : List Sh) (v : Value) : (rowsV l v).length = l.length := by
 rcases snoc_or l with rfl | ⟨l', x, rfl⟩
 ·rfl
 ·rw [rowsV_snoc]; simp
theorem rows_len (l : List Sh) (d : List D) : (l.map encSh ++ [d]).length = l.length + 1 := by simp
def rsE (r : Option (List Sh)) : AV := match r with
 | some l => .tup [(false, [.d (shsD l)]), (false, [.d (.i 0)])]
 | none => .tup [(false, [.d (shsD [])]), (false, [.d (.i 8)])]
def stS (text : Bs) (q : Nat × List Sh × Value) : Prop := foldK stepL (cutB 10 text).dropLast q.1 = some q.2.1 ∧ q.1 ≤ (cutB 10 text).length - 1 ∧ bndT q.1 q.2.1
theorem readS_no {text : Bs} {k : Nat} (h : foldK stepL (cutB 10 text).dropLast k = none) : readS text = none := by
 have : looseS text = none := fold_none h
 unfold readS; rw [this]
theorem readS_all {text : Bs} {l : List Sh} (h : foldK stepL (cutB 10 text).dropLast ((cutB 10 text).length - 1) = some l) : readS text = if sheetsE l = 0 ∧ sheetsB l = text then some l else none := by
 have : looseS text = some l := by
  have e : (cutB 10 text).length - 1 = (cutB 10 text).dropLast.length := by rw [List.length_dropLast]
  rw [e, foldK_all] at h
  exact h
 unfold readS; rw [this]
theorem cut14 (s : Bs) : (s.take 14).drop 7 = (s.drop 7).take 7 := by rw [List.drop_take]
theorem cut22 (s : Bs) : (s.take 22).drop 15 = (s.drop 15).take 7 := by rw [List.drop_take]
theorem take_rows (l : List Sh) (x : Sh) : List.take (l.length + 1) (l.map encSh ++ [[D.i x.meter, trsD x.tries]]) = (l ++ [x]).map encSh := by
 rw [rows_back, List.take_of_length_le (by simp)]
set_option maxRecDepth 20000 in
set_option maxHeartbeats 16000000 in
theorem c_ref_ReadSheets (text : Bs) (hl : text.length ≤ 100000000) : Contract Tryz.prog 37 [.str text] (rsE (readS text)) [] := by
 have hcn0 := cut_cnt 10 text
 have hcp : 1 ≤ (cutB 10 text).length := List.length_pos_iff.2 (cutB_ne 10 text)
 refine con_of follows_mixed Tryz.func37 rfl (by simp only [List.length_cons, List.length_nil, Tryz.ntmps37]; omega) V162 rfl ?_
 refine Exec.reg ?_
 iterate 2 (refine Run.o ?_)
 refine Run.nil (Exec.reg ?_)
 refine Run.o ?_
 refine Run.c1 (c_rCut text 10 (by omega)) V156 V156 ?_
 refine Run.o ?_
 refine Run.nil (Exec.reg ?_)
 refine Run.o ?_
 refine Run.nil (Exec.assocS (Exec.reg ?_))
 refine Run.o ?_
 refine Run.nilo 5 1000 68 2 V156 V156 (by omega) (by omega) V156 ?_
 refine Run.pinNil 1002 1001 146 3 (.inl V156) V156 (by omega) (by omega) (by omega) (by omega) V156 ?_
 refine Run.nil (Exec.blk ?_)
 refine Exec.whl [0, 4, 5, 6] [1000, 1001, 1002] (fun (q : Nat × List Sh × Value) => [.slot 5 (.leaf (.own 1000 0 q.2.1.length q.2.1.length)), .slot 6 (.int q.1), .obj 1000 (.arr 68 2 (rowsV q.2.1 q.2.2)), .obj 1001 (.arr 146 3 ((lastT q.2.1).map encTr)), .obj 1002 (.pin q.2.2 (.own 1001 0 (lastT q.2.1).length (lastT q.2.1).length))]) (fun q => stS text q) (fun q => (cutB 10 text).length - 1 - q.1) ((0, ([] : List Sh), Value.slice none 0 0)) (fun q => by simp only [go_sem] <;> rfl) (by simp only [go_sem, Int.natCast_zero, rowsV_nil, lastT_nil, List.map_nil, List.length_nil] <;> rfl) ?_ (fun q hX => ?_)
 ·exact ⟨foldK_zero _ _, Nat.zero_le _, bndT_nil⟩
 ·skip
  obtain ⟨k, l, v⟩ := q
  dsimp only at hX ⊢
  have hrl := rowsV_len l v
  have hkb := hX.2.1
  refine Exec.assocS (Exec.reg ?_)
  have X := Fx.mk hrl
  refine Run.o1 V152 ?_
  refine Run.o1 V59 ?_
  iterate 3 (refine Run.o1 V152 ?_)
  refine Run.nil ?_
  refine Exec.cndS V152 (fun hb17 => ?_) (fun hb17 => ?_)
  ·skip
   have hkn : k < (cutB 10 text).length - 1 := by have := of_decide_eq_true hb17; omega
   obtain ⟨s, hx⟩ : ∃ s, (cutB 10 text)[k]? = some s := ⟨_, List.getElem?_eq_getElem (by omega)⟩
   have hsl := cut_len 10 text s (List.mem_of_getElem? hx)
   have hxd : (cutB 10 text).dropLast[k]? = some s := by rw [List.getElem?_dropLast, if_pos (by omega)]; exact hx
   have hfk := foldK_step hxd hX.1
   have hbT : bndT k l := hX.2.2
   have hbL : l.length ≤ k := hbT.1
   refine Exec.skipS (Exec.blk (Exec.reg ?_))
   have X := X.a hx
   iterate 2 (refine Run.o1 V152 ?_)
   refine Run.o1 V77 ?_
   iterate 2 (refine Run.o1 V152 ?_)
   refine Run.nil (Exec.assocS ?_)
   by_cases h9 : s.length = 9
   ·skip
    obtain ⟨c, hc0⟩ : ∃ c, s[0]? = some c := ⟨_, List.getElem?_eq_getElem (by omega)⟩
    have hhd : s.head? = some c := by rw [List.head?_eq_getElem?]; exact hc0
    have d1 : ((s.length : Int) == 9) = true := beq_iff_eq.2 (by omega)
    by_cases hc : c = 35
    ·skip
     subst hc
     have d2 : (((35 : UInt8).toNat : Int) == 35) = true := rfl
     have hst := stepL_hit (l := l) h9 hhd
     refine Exec.reg ?_
     have X := ((X.a d1).a hc0).a d2
     iterate 4 (refine Run.o1 V128 ?_)
     iterate 3 (refine Run.y1 V128 ?_)
     refine Run.o1 V128 ?_
     refine Run.nil ?_
     refine Exec.cndS V128 (fun hb31 => ?_) (fun hb31 => ?_)
     ·skip
      refine Exec.assocS ?_
      by_cases hl0 : l = []
      ·skip
       subst hl0
       have hta : List.take (lastT []).length (List.map encTr (lastT [])) = List.map encTr (lastT []) := rfl
       have hnx := bndT_new hbT (valM (s.take 7))
       rw [hst] at hfk
       refine Exec.reg ?_
       have X := Fx.mk hta
       refine Run.frz 1001 V152 ?_
       have X := ((((Fx.mk hrl).a hx).a d1).a hc0).a d2
       iterate 2 (refine Run.o1 V107 ?_)
       refine Run.o1 (by simp only [go_sem, X.h, Int.toNat_zero, List.drop_zero]; (try simp (disch := omega) only [if_pos]); (try simp only [go_sem, X.h, Int.toNat_zero, List.drop_zero])<;> rfl) ?_
       refine Run.c1 (c_value (s.take 7) V154) V107 V107 ?_
       iterate 2 (refine Run.o1 V107 ?_)
       refine Run.o1 (by simp only [go_sem, X.h, Int.toNat_zero, List.drop_zero]; (try simp (disch := omega) only [if_pos]); (try simp only [go_sem, X.h, Int.toNat_zero, List.drop_zero]) <;> first | (refine ite_run ⟨by (try simp only [List.length_append, List.length_drop, List.length_take, List.length_map, List.length_cons, List.length_nil, List.length_replicate, List.length_set, List.length_range, Nat.zero_add]); omega, by (try simp only [List.length_append, List.length_drop, List.length_take, List.length_map, List.length_cons, List.length_nil, List.length_replicate, List.length_set, List.length_range, Nat.zero_add]); omega, by repeat (first | exact al_nil | assumption | refine al_app ?_ ?_ | refine al_drop ?_ | refine al_take ?_ | exact al_map (fun _ => rfl) | exact al_rep rfl | refine al_cons rfl ?_)⟩ ?_; simp only [go_sem, X.h, Int.toNat_zero, List.drop_zero] <;> rfl) | (refine ite_run ⟨by (try simp only [List.length_append, List.length_drop, List.length_take, List.length_map, List.length_cons, List.length_nil, List.length_replicate, List.length_set, List.length_range, Nat.zero_add]); omega, by repeat (first | exact al_nil | assumption | refine al_app ?_ ?_ | refine al_drop ?_ | refine al_take ?_ | exact al_map (fun _ => rfl) | exact al_rep rfl | refine al_cons rfl ?_)⟩ ?_; simp only [go_sem, X.h, Int.toNat_zero, List.drop_zero] <;> rfl) | rfl) ?_
       refine Run.o1 V107 ?_
       refine Run.pinNil 1002 1001 146 3 (.inr ⟨_, _, V156⟩) V156 (by omega) (by omega) (by omega) (by omega) V156 ?_
       refine Run.nil (Exec.exitS (BlkK.hit (Exec.reg1 ?_)))
       refine Run.o1 V107 ?_
       refine Run.o1 (by simp only [go_sem, X.h, Int.toNat_zero, List.drop_zero]; (try simp (disch := omega) only [IntWalk.i64_in, IntWalk.u64_in, IntWalk.i32_in, IntWalk.u8_in, if_neg, if_pos])<;> rfl) ?_
       refine Run.o1 V107 ?_
       refine Run.nil ?_
       refine WhlK.nxt ((k + 1, [⟨valM (s.take 7), []⟩], .slice none 0 0)) ?_ ?_ ?_
       ·show (cutB 10 text).length - 1 - (k + 1) < (cutB 10 text).length - 1 - k; omega
       ·exact ⟨hfk, hkn, hnx⟩
       ·exact Ghost.kp [0, 4, 5, 6] [1000, 1001, 1002] (by simp only [go_sem, X.h, Int.toNat_zero, List.drop_zero] <;> first | ((repeat' (first | with_reducible_and_instances rfl | refine st_eq ?_ ?_ ?_ | refine ret_eq ?_ | refine tup_eq ?_ | refine tm_eq ?_ ?_ | refine arr_eq ?_ | refine cells_eq ?_ | refine val_eq ?_ | refine ls_eq ?_ ?_ | refine own_eq ?_ ?_ | refine sl_eq ?_ | refine b_eq ?_ | (refine i_eq ?_; omega))); all_goals (first | omega | (simp [rowsV, lastT, encTr]; done))) | rfl)
      ·skip
       obtain ⟨l1, x, rfl⟩ := (snoc_or l).resolve_left hl0
       have hrv := rowsV_snoc l1 x v
       have hlt := lastT_snoc l1 x
       have hll : (l1 ++ [x]).length = l1.length + 1 := by simp
       have hrl2 := rows_len l1
       have hl1 : l1.length ≤ 200000000 := by omega
       have hta : List.take x.tries.length (List.map encTr x.tries) = List.map encTr x.tries := List.take_of_length_le (by simp)
       have hnx := bndT_new hbT (valM (s.take 7))
       rw [hst] at hfk
       have hrb := rows_back l1 x
       have hr2 : rowsV (l1 ++ [x] ++ [⟨valM (s.take 7), []⟩]) (.slice none 0 0) = (l1.map encSh ++ [[D.i x.meter, trsD x.tries]]) ++ [[.i (valM (s.take 7) : Nat), .raw (.slice none 0 0)]] := by rw [rowsV_snoc, rows_back]
       have hl2 : lastT (l1 ++ [x] ++ [⟨valM (s.take 7), []⟩]) = [] := lastT_snoc _ _
       refine Exec.reg ?_
       have X := ((Fx.mk hrv).a hlt).a hta
       refine Run.frz 1001 V152 ?_
       refine Run.unpinR 1002 1000 V152 V152 V152 ?_
       have X := ((((((((Fx.mk hrl).a hx).a d1).a hc0).a d2).a hll).a hrl2).a hr2).a hl2
       iterate 2 (refine Run.o1 V81 ?_)
       refine Run.o1 (by simp only [go_sem, X.h, Int.toNat_zero, List.map_nil, List.length_nil, List.drop_zero]; (try simp (disch := omega) only [if_pos]); (try simp only [go_sem, X.h, Int.toNat_zero, List.map_nil, List.length_nil, List.drop_zero])<;> rfl) ?_
       refine Run.c1 (c_value (s.take 7) V154) V81 V81 ?_
       iterate 2 (refine Run.o1 V81 ?_)
       refine Run.o1 (by simp only [go_sem, X.h, Int.toNat_zero, List.map_nil, List.length_nil, List.drop_zero]; (try simp (disch := omega) only [if_pos]); (try simp only [go_sem, X.h, Int.toNat_zero, List.map_nil, List.length_nil, List.drop_zero]) <;> first | (refine ite_run ⟨by (try simp only [List.length_append, List.length_drop, List.length_take, List.length_map, List.length_cons, List.length_nil, List.length_replicate, List.length_set, List.length_range, Nat.zero_add]); omega, by (try simp only [List.length_append, List.length_drop, List.length_take, List.length_map, List.length_cons, List.length_nil, List.length_replicate, List.length_set, List.length_range, Nat.zero_add]); omega, by repeat (first | exact al_nil | assumption | refine al_app ?_ ?_ | refine al_drop ?_ | refine al_take ?_ | exact al_map (fun _ => rfl) | exact al_rep rfl | refine al_cons rfl ?_)⟩ ?_; simp only [go_sem, X.h, Int.toNat_zero, List.map_nil, List.length_nil, List.drop_zero] <;> rfl) | (refine ite_run ⟨by (try simp only [List.length_append, List.length_drop, List.length_take, List.length_map, List.length_cons, List.length_nil, List.length_replicate, List.length_set, List.length_range, Nat.zero_add]); omega, by repeat (first | exact al_nil | assumption | refine al_app ?_ ?_ | refine al_drop ?_ | refine al_take ?_ | exact al_map (fun _ => rfl) | exact al_rep rfl | refine al_cons rfl ?_)⟩ ?_; simp only [go_sem, X.h, Int.toNat_zero, List.map_nil, List.length_nil, List.drop_zero] <;> rfl) | rfl) ?_
       refine Run.o1 V81 ?_
       refine Run.pinNil 1002 1001 146 3 (.inr ⟨_, _, V156⟩) V156 (by omega) (by omega) (by omega) (by omega) V156 ?_
       refine Run.nil (Exec.exitS (BlkK.hit (Exec.reg1 ?_)))
       refine Run.o1 V81 ?_
       refine Run.o1 (by simp only [go_sem, X.h, Int.toNat_zero, List.map_nil, List.length_nil, List.drop_zero]; (try simp (disch := omega) only [IntWalk.i64_in, IntWalk.u64_in, IntWalk.i32_in, IntWalk.u8_in, if_neg, if_pos])<;> rfl) ?_
       refine Run.o1 V81 ?_
       refine Run.nil ?_
       refine WhlK.nxt ((k + 1, l1 ++ [x] ++ [⟨valM (s.take 7), []⟩], .slice none 0 0)) ?_ ?_ ?_
       ·show (cutB 10 text).length - 1 - (k + 1) < (cutB 10 text).length - 1 - k; omega
       ·exact ⟨hfk, hkn, hnx⟩
       ·exact Ghost.kp [0, 4, 5, 6] [1000, 1001, 1002] (by simp only [go_sem, X.h, Int.toNat_zero, List.map_nil, List.length_nil, List.drop_zero] <;> first | ((repeat' (first | with_reducible_and_instances rfl | refine st_eq ?_ ?_ ?_ | refine ret_eq ?_ | refine tup_eq ?_ | refine tm_eq ?_ ?_ | refine arr_eq ?_ | refine cells_eq ?_ | refine val_eq ?_ | refine ls_eq ?_ ?_ | refine own_eq ?_ ?_ | refine sl_eq ?_ | refine b_eq ?_ | (refine i_eq ?_; omega))); all_goals (first | omega | (rw [hr2]; done) | (rw [hl2]; done) | (simp [hl2]; done) | (simp; done))) | rfl)
     ·exact absurd hb31 (by simp)
    ·skip
     have hno : ¬ (s.length = 9 ∧ s.head? = some 35) := fun h => by rw [hhd] at h; exact hc (Option.some.inj h.2)
     have d2 : ((c.toNat : Int) == 35) = false := beq_eq_false_iff_ne.2 (fun h => hc (UInt8.toNat_inj.1 V136))
     refine Exec.reg ?_
     have X := ((X.a d1).a hc0).a d2
     iterate 4 (refine Run.o1 V128 ?_)
     iterate 3 (refine Run.y1 V128 ?_)
     refine Run.o1 V128 ?_
     refine Run.nil ?_
     refine Exec.cndS V128 (fun hb31 => ?_) (fun hb31 => ?_)
     ·exact absurd hb31 (by simp)
     ·skip
      refine Exec.skipS (Exec.assocS ?_)
      by_cases h24 : s.length = 24
      ·skip
       have d3 : ((s.length : Int) != 24) = false := by rw [h24]; rfl
       by_cases hl0 : l = []
       ·skip
        subst hl0
        have d4 : (((([] : List Sh).length : Nat) : Int) == 0) = true := rfl
        have hr := readS_no (hfk.trans (stepL_no hno (.inr rfl)))
        refine Exec.reg ?_
        have X := ((X.a d3).a d4).a hr
        iterate 4 (refine Run.o1 V120 ?_)
        iterate 3 (refine Run.y1 V120 ?_)
        refine Run.o1 V120 ?_
        refine Run.nil ?_
        refine Exec.cndS V120 (fun hb46 => ?_) (fun hb46 => ?_)
        ·skip
         refine Exec.assocS (Exec.reg ?_)
         iterate 2 (refine Run.o1 V120 ?_)
         refine Run.nild 2 2 V156 V156 ?_
         refine Run.nil (Exec.retS (BlkK.ret (WhlK.ret (BlkK.ret ?_))))
         exact Ends.fin [] (rs := [.tmp 2, .tmp 3]) rfl V120 (by simp only [go_sem, X.h, Int.toNat_zero, rsE] <;> first | rfl | exact eqz)
        ·exact absurd hb46 (by simp)
       ·skip
        have d4 : ((l.length : Int) == 0) = false := beq_eq_false_iff_ne.2 (by have := List.length_pos_iff.2 hl0; omega)
        refine Exec.reg ?_
        have X := (X.a d3).a d4
        iterate 4 (refine Run.o1 V128 ?_)
        iterate 3 (refine Run.y1 V128 ?_)
        refine Run.o1 V128 ?_
        refine Run.nil ?_
        refine Exec.cndS V128 (fun hb46 => ?_) (fun hb46 => ?_)
        ·exact absurd hb46 (by simp)
        ·skip
         exact absurd h9 (by omega)
      ·skip
       have d3 : ((s.length : Int) != 24) = true := bne_iff_ne.2 (by omega)
       have hr := readS_no (hfk.trans (stepL_no hno (.inl h24)))
       refine Exec.reg ?_
       have X := (X.a d3).a hr
       iterate 4 (refine Run.o1 V120 ?_)
       iterate 3 (refine Run.s ?_)
       refine Run.o1 V120 ?_
       refine Run.nil ?_
       refine Exec.cndS V120 (fun hb46 => ?_) (fun hb46 => ?_)
       ·skip
        refine Exec.assocS (Exec.reg ?_)
        iterate 2 (refine Run.o1 V120 ?_)
        refine Run.nild 2 2 V156 V156 ?_
        refine Run.nil (Exec.retS (BlkK.ret (WhlK.ret (BlkK.ret ?_))))
        exact Ends.fin [] (rs := [.tmp 2, .tmp 3]) rfl V120 (by simp only [go_sem, X.h, Int.toNat_zero, rsE] <;> first | rfl | exact eqz)
       ·exact absurd hb46 (by simp)
   ·skip
    have d1 : ((s.length : Int) == 9) = false := beq_eq_false_iff_ne.2 (by omega)
    have hno : ¬ (s.length = 9 ∧ s.head? = some 35) := fun h => h9 h.1
    refine Exec.reg ?_
    have X := X.a d1
    iterate 4 (refine Run.o1 V152 ?_)
    iterate 3 (refine Run.s ?_)
    refine Run.o1 V152 ?_
    refine Run.nil ?_
    refine Exec.cndS V152 (fun hb31 => ?_) (fun hb31 => ?_)
    ·exact absurd hb31 (by simp)
    ·skip
     refine Exec.skipS (Exec.assocS ?_)
     by_cases h24 : s.length = 24
     ·skip
      have d3 : ((s.length : Int) != 24) = false := by rw [h24]; rfl
      by_cases hl0 : l = []
      ·skip
       subst hl0
       have d4 : (((([] : List Sh).length : Nat) : Int) == 0) = true := rfl
       have hr := readS_no (hfk.trans (stepL_no hno (.inr rfl)))
       refine Exec.reg ?_
       have X := ((X.a d3).a d4).a hr
       iterate 4 (refine Run.o1 V147 ?_)
       iterate 3 (refine Run.y1 V147 ?_)
       refine Run.o1 V147 ?_
       refine Run.nil ?_
       refine Exec.cndS V147 (fun hb46 => ?_) (fun hb46 => ?_)
       ·skip
        refine Exec.assocS (Exec.reg ?_)
        iterate 2 (refine Run.o1 V147 ?_)
        refine Run.nild 2 2 V156 V156 ?_
        refine Run.nil (Exec.retS (BlkK.ret (WhlK.ret (BlkK.ret ?_))))
        exact Ends.fin [] (rs := [.tmp 2, .tmp 3]) rfl V147 V117
       ·exact absurd hb46 (by simp)
      ·skip
       have d4 : ((l.length : Int) == 0) = false := beq_eq_false_iff_ne.2 (by have := List.length_pos_iff.2 hl0; omega)
       refine Exec.reg ?_
       have X := (X.a d3).a d4
       iterate 4 (refine Run.o1 V152 ?_)
       iterate 3 (refine Run.y1 V152 ?_)
       refine Run.o1 V152 ?_
       refine Run.nil ?_
       refine Exec.cndS V152 (fun hb46 => ?_) (fun hb46 => ?_)
       ·exact absurd hb46 (by simp)
       ·skip
        refine Exec.skipS ?_
        by_cases hlx : True
        ·skip
         obtain ⟨l1, x, rfl⟩ := (snoc_or l).resolve_left hl0
         have hrv := rowsV_snoc l1 x v
         have hlt := lastT_snoc l1 x
         have hll : (l1 ++ [x]).length = l1.length + 1 := by simp
         have hrl2 := rows_len l1
         have hl1 : l1.length ≤ 200000000 := by omega
         have hta : List.take x.tries.length (List.map encTr x.tries) = List.map encTr x.tries := List.take_of_length_le (by simp)
         have t1 : (((l1.length + 1 : Nat) : Int) - 1).toNat = l1.length := by omega
         have hst := stepL_one (l := l1) (x := x) hno h24
         rw [hst] at hfk
         have hnx := bndT_try hbT ⟨valM (s.take 6), valM ((s.drop 7).take 7), valM ((s.drop 15).take 7)⟩
         have hra := rows_at l1
         have hxt : x.tries.length ≤ k := hbT.2 x (by simp)
         have c1 : valM ((s.take 14).drop 7) = valM ((s.drop 7).take 7) := by rw [cut14]
         have c2 : valM ((s.take 22).drop 15) = valM ((s.drop 15).take 7) := by rw [cut22]
         have hlt2 : lastT (l1 ++ [⟨x.meter, x.tries ++ [⟨valM (s.take 6), valM ((s.drop 7).take 7), valM ((s.drop 15).take 7)⟩]⟩]) = x.tries ++ [⟨valM (s.take 6), valM ((s.drop 7).take 7), valM ((s.drop 15).take 7)⟩] := lastT_snoc _ _
         refine Exec.reg ?_
         have X := (((((((X.a hrv).a hlt).a hll).a hrl2).a hra).a t1).a c1).a c2
         iterate 3 (refine Run.o1 V115 ?_)
         refine Run.o1 V44 ?_
         refine Run.o1 V52 ?_
         refine Run.o1 V115 ?_
         refine Run.nil ?_
         refine Exec.opl1 22 19 rfl V160 ?_
         iterate 4 (refine OpenK.o1 V115 ?_)
         refine OpenK.pinl 1002 V156 V115 V115 V156 V156 ?_
         refine OpenK.o1 V115 ?_
         refine OpenK.o1 V52 ?_
         refine OpenK.cal (c_value (s.take 6) V154) V158 V115 V66 (fr0) V115 V156 V156 ?_
         refine OpenK.o1 V115 ?_
         refine OpenK.o1 V52 ?_
         refine OpenK.cal (c_value ((s.take 14).drop 7) (by rw [List.length_drop, List.length_take]; omega)) V158 V115 V66 (fr0) V115 V156 V156 ?_
         refine OpenK.o1 V115 ?_
         refine OpenK.o1 V52 ?_
         refine OpenK.cal (c_value ((s.take 22).drop 15) (by rw [List.length_drop, List.length_take]; omega)) V158 V115 V66 (fr0) V115 V156 V156 ?_
         iterate 2 (refine OpenK.o1 V115 ?_)
         refine OpenK.o1 (by simp only [go_sem, X.h, rows_set, List.drop_zero]; (try simp (disch := omega) only [if_pos]); (try simp only [go_sem, X.h, rows_set, List.drop_zero]) <;> first | (refine ite_run ⟨by (try simp only [List.length_append, List.length_drop, List.length_take, List.length_map, List.length_cons, List.length_nil, List.length_replicate, List.length_set, List.length_range, Nat.zero_add]); omega, by (try simp only [List.length_append, List.length_drop, List.length_take, List.length_map, List.length_cons, List.length_nil, List.length_replicate, List.length_set, List.length_range, Nat.zero_add]); omega, by repeat (first | exact al_nil | assumption | refine al_app ?_ ?_ | refine al_drop ?_ | refine al_take ?_ | exact al_map (fun _ => rfl) | exact al_rep rfl | refine al_cons rfl ?_)⟩ ?_; simp only [go_sem, X.h, rows_set, List.drop_zero] <;> rfl) | (refine ite_run ⟨by (try simp only [List.length_append, List.length_drop, List.length_take, List.length_map, List.length_cons, List.length_nil, List.length_replicate, List.length_set, List.length_range, Nat.zero_add]); omega, by repeat (first | exact al_nil | assumption | refine al_app ?_ ?_ | refine al_drop ?_ | refine al_take ?_ | exact al_map (fun _ => rfl) | exact al_rep rfl | refine al_cons rfl ?_)⟩ ?_; simp only [go_sem, X.h, rows_set, List.drop_zero] <;> rfl) | rfl) ?_
         iterate 2 (refine OpenK.o1 V115 ?_)
         refine OpenK.nil (OpenLE.pin (s := 68) (G := 1002) V160 V160 V156 V115 (.inr ⟨_, _, V115⟩) (fun u => V156) (fun u => V115) (fun u => V156) fun u => ?_)
         refine BlkK.nrm (Exec.reg1 ?_)
         refine Run.o1 V115 ?_
         refine Run.o1 V44 ?_
         refine Run.o1 V115 ?_
         refine Run.nil ?_
         refine WhlK.nxt ((k + 1, l1 ++ [⟨x.meter, x.tries ++ [⟨valM (s.take 6), valM ((s.drop 7).take 7), valM ((s.drop 15).take 7)⟩]⟩], u)) ?_ ?_ ?_
         ·show (cutB 10 text).length - 1 - (k + 1) < (cutB 10 text).length - 1 - k; omega
         ·exact ⟨hfk, hkn, hnx⟩
         ·exact Ghost.kp [0, 4, 5, 6] [1000, 1001, 1002] (by simp only [go_sem, X.h, rows_set, List.drop_zero] <;> first | ((repeat' (first | with_reducible_and_instances rfl | refine st_eq ?_ ?_ ?_ | refine ret_eq ?_ | refine tup_eq ?_ | refine tm_eq ?_ ?_ | refine arr_eq ?_ | refine cells_eq ?_ | refine val_eq ?_ | refine ls_eq ?_ ?_ | refine own_eq ?_ ?_ | refine sl_eq ?_ | refine b_eq ?_ | (refine i_eq ?_; omega))); all_goals (first | omega | (rw [hlt2]; simp [encTr]; done) | (rw [rowsV_snoc]; done) | (simp; done) | (simp [hlt2]; done))) | rfl)
        ·skip
         exact absurd trivial hlx
     ·skip
      have d3 : ((s.length : Int) != 24) = true := bne_iff_ne.2 (by omega)
      have hr := readS_no (hfk.trans (stepL_no hno (.inl h24)))
      refine Exec.reg ?_
      have X := (X.a d3).a hr
      iterate 4 (refine Run.o1 V147 ?_)
      iterate 3 (refine Run.s ?_)
      refine Run.o1 V147 ?_
      refine Run.nil ?_
      refine Exec.cndS V147 (fun hb46 => ?_) (fun hb46 => ?_)
      ·skip
       refine Exec.assocS (Exec.reg ?_)
       iterate 2 (refine Run.o1 V147 ?_)
       refine Run.nild 2 2 V156 V156 ?_
       refine Run.nil (Exec.retS (BlkK.ret (WhlK.ret (BlkK.ret ?_))))
       exact Ends.fin [] (rs := [.tmp 2, .tmp 3]) rfl V147 V117
      ·exact absurd hb46 (by simp)
  ·skip
   have hke : k = (cutB 10 text).length - 1 := by have := of_decide_eq_false hb17; have := hX.2.1; omega
   have hf1 : foldK stepL (cutB 10 text).dropLast k = some l := hX.1
   have hrq := readS_all (hke ▸ hf1)
   have hbT : bndT k l := hX.2.2
   have hbL : l.length ≤ k := hbT.1
   refine Exec.exitS (WhlK.ext (BlkK.hit ?_))
   by_cases hl0 : l = []
   ·skip
    subst hl0
    have hta : List.take (lastT []).length (List.map encTr (lastT [])) = List.map encTr (lastT []) := rfl
    have hrv := rowsV_nil v
    refine Exec.reg ?_
    have X := Fx.mk hta
    refine Run.frz 1001 V152 ?_
    have X := Fx.mk hrv
    refine Run.frz 1000 (by simp only [go_sem, X.h, List.take_nil] <;> rfl) ?_
    have X := Fx.mk hrl
    refine Run.o1 V152 ?_
    refine Run.c1 (c_ref_WriteSheets [] (by simp) (by simp)) V152 V152 ?_
    iterate 5 (refine Run.o1 V152 ?_)
    refine Run.nil (Exec.assocS ?_)
    by_cases g1 : sheetsE [] = 0
    ·skip
     by_cases g2 : wSheets [] = text
     ·skip
      have hw : wSheets [] = sheetsB [] := if_pos g1
      have hr : readS text = some [] := by rw [hrq, if_pos ⟨g1, hw ▸ g2⟩]
      have hg2 : (wSheets [] == text) = true := by simpa using g2
      refine Exec.reg ?_
      have X := ((X.a g1).a hr).a hg2
      iterate 3 (refine Run.o1 V147 ?_)
      iterate 3 (refine Run.y1 V147 ?_)
      refine Run.o1 V147 ?_
      refine Run.nil ?_
      refine Exec.cndS V147 (fun hb82 => ?_) (fun hb82 => ?_)
      ·exact absurd hb82 (by simp)
      ·skip
       refine Exec.skipS (Exec.reg ?_)
       iterate 3 (refine Run.o1 V147 ?_)
       refine Run.nil ?_
       exact Ends.fin [] (rs := [.tmp 2, .tmp 3]) rfl V147 V117
     ·skip
      have hw : wSheets [] = sheetsB [] := if_pos g1
      have hr : readS text = none := by rw [hrq, if_neg (fun h => g2 (hw.trans h.2))]
      have hg2 : (wSheets [] == text) = false := by simpa using g2
      refine Exec.reg ?_
      have X := ((X.a g1).a hr).a hg2
      iterate 3 (refine Run.o1 V147 ?_)
      iterate 3 (refine Run.y1 V147 ?_)
      refine Run.o1 V147 ?_
      refine Run.nil ?_
      refine Exec.cndS V147 (fun hb82 => ?_) (fun hb82 => ?_)
      ·skip
       refine Exec.assocS (Exec.reg ?_)
       iterate 2 (refine Run.o1 V147 ?_)
       refine Run.nild 2 2 V156 V156 ?_
       refine Run.nil (Exec.retS ?_)
       exact Ends.fin [] (rs := [.tmp 2, .tmp 3]) rfl V147 V117
      ·exact absurd hb82 (by simp)
    ·skip
     have hr : readS text = none := by rw [hrq, if_neg (fun h => g1 h.1)]
     have hg1 : (sheetsE [] != 0) = true := by simpa using g1
     refine Exec.reg ?_
     have X := (X.a hr).a hg1
     iterate 3 (refine Run.o1 V147 ?_)
     iterate 3 (refine Run.s ?_)
     refine Run.o1 V147 ?_
     refine Run.nil ?_
     refine Exec.cndS V147 (fun hb82 => ?_) (fun hb82 => ?_)
     ·skip
      refine Exec.assocS (Exec.reg ?_)
      iterate 2 (refine Run.o1 V147 ?_)
      refine Run.nild 2 2 V156 V156 ?_
      refine Run.nil (Exec.retS ?_)
      exact Ends.fin [] (rs := [.tmp 2, .tmp 3]) rfl V147 V117
     ·exact absurd hb82 (by simp)
   ·skip
    obtain ⟨l1, x, rfl⟩ := (snoc_or l).resolve_left hl0
    have hrv := rowsV_snoc l1 x v
    have hlt := lastT_snoc l1 x
    have hll : (l1 ++ [x]).length = l1.length + 1 := by simp
    have hrl2 := rows_len l1
    have hl1 : l1.length ≤ 200000000 := by omega
    have hta : List.take x.tries.length (List.map encTr x.tries) = List.map encTr x.tries := List.take_of_length_le (by simp)
    have htr := take_rows l1 x
    refine Exec.reg ?_
    have X := ((Fx.mk hrv).a hlt).a hta
    refine Run.frz 1001 V152 ?_
    refine Run.unpinR 1002 1000 V152 V152 V152 ?_
    have X := ((Fx.mk hll).a hrl2).a htr
    refine Run.frz 1000 V152 ?_
    have X := ((Fx.mk hrl).a hll).a hrl2
    refine Run.o1 V152 ?_
    refine Run.c1 (c_ref_WriteSheets (l1 ++ [x]) (by omega) (fun y hy => by have := hbT.2 y hy; omega)) V152 V152 ?_
    iterate 5 (refine Run.o1 V152 ?_)
    refine Run.nil (Exec.assocS ?_)
    by_cases j1 : sheetsE (l1 ++ [x]) = 0
    ·skip
     by_cases j2 : wSheets (l1 ++ [x]) = text
     ·skip
      have hw : wSheets (l1 ++ [x]) = sheetsB (l1 ++ [x]) := if_pos j1
      have hr : readS text = some (l1 ++ [x]) := by rw [hrq, if_pos ⟨j1, hw ▸ j2⟩]
      have hj2 : (wSheets (l1 ++ [x]) == text) = true := by simpa using j2
      refine Exec.reg ?_
      have X := ((X.a j1).a hr).a hj2
      iterate 3 (refine Run.o1 V147 ?_)
      iterate 3 (refine Run.y1 V147 ?_)
      refine Run.o1 V147 ?_
      refine Run.nil ?_
      refine Exec.cndS V147 (fun hb82 => ?_) (fun hb82 => ?_)
      ·exact absurd hb82 (by simp)
      ·skip
       refine Exec.skipS (Exec.reg ?_)
       iterate 3 (refine Run.o1 V147 ?_)
       refine Run.nil ?_
       exact Ends.fin [] (rs := [.tmp 2, .tmp 3]) rfl V147 V117
     ·skip
      have hw : wSheets (l1 ++ [x]) = sheetsB (l1 ++ [x]) := if_pos j1
      have hr : readS text = none := by rw [hrq, if_neg (fun h => j2 (hw.trans h.2))]
      have hj2 : (wSheets (l1 ++ [x]) == text) = false := by simpa using j2
      refine Exec.reg ?_
      have X := ((X.a j1).a hr).a hj2
      iterate 3 (refine Run.o1 V147 ?_)
      iterate 3 (refine Run.y1 V147 ?_)
      refine Run.o1 V147 ?_
      refine Run.nil ?_
      refine Exec.cndS V147 (fun hb82 => ?_) (fun hb82 => ?_)
      ·skip
       refine Exec.assocS (Exec.reg ?_)
       iterate 2 (refine Run.o1 V147 ?_)
       refine Run.nild 2 2 V156 V156 ?_
       refine Run.nil (Exec.retS ?_)
       exact Ends.fin [] (rs := [.tmp 2, .tmp 3]) rfl V147 V117
      ·exact absurd hb82 (by simp)
    ·skip
     have hr : readS text = none := by rw [hrq, if_neg (fun h => j1 h.1)]
     have hj1 : (sheetsE (l1 ++ [x]) != 0) = true := by simpa using j1
     refine Exec.reg ?_
     have X := (X.a hr).a hj1
     iterate 3 (refine Run.o1 V147 ?_)
     iterate 3 (refine Run.s ?_)
     refine Run.o1 V147 ?_
     refine Run.nil ?_
     refine Exec.cndS V147 (fun hb82 => ?_) (fun hb82 => ?_)
     ·skip
      refine Exec.assocS (Exec.reg ?_)
      iterate 2 (refine Run.o1 V147 ?_)
      refine Run.nild 2 2 V156 V156 ?_
      refine Run.nil (Exec.retS ?_)
      exact Ends.fin [] (rs := [.tmp 2, .tmp 3]) rfl V147 V117
     ·exact absurd hb82 (by simp)

end Go.Mw

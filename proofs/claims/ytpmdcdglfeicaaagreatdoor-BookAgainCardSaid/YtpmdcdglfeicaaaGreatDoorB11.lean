/- Contracts of the functions that the book reaches: figures. -/
import Derived.Test.YtpmdcdglfeicaaaGreatDoorD1
import Derived.Test.YtpmdcdglfeicaaaGreatDoorB4
import Derived.Test.YtpmdcdglfeicaaaGreatDoorB6
import Derived.Lib.Split
import Derived.Test.YtpmdcdglfeicaaaGreatDoorB8
import Derived.Test.YtpmdcdglfeicaaaGreatDoorB10
set_option maxRecDepth 20000
set_option maxHeartbeats 16000000
set_option linter.unusedSimpArgs false
set_option linter.unusedVariables false
set_option linter.unusedSectionVars false
set_option linter.deprecated false
namespace Go.Mw
open Go.Proofs
open Go.Bk
attribute [local go_sem] decide_true beq_self_eq_true bne_self_eq_false
theorem valD_take {s : Bs} {p : Nat} {c : UInt8} (h : s[p]? = some c) : valD (s.take (p + 1)) = 10 * valD (s.take p) + (c.toNat - 48) := by rw [take_snoc h, valD_snoc]
theorem valD_bnd : ∀ (n : Nat) (s : Bs), s.length ≤ n → s.all isDig = true → valD s < 10 ^ n := by
 intro n
 induction n with
 | zero => intro s h _; have : s = [] := List.eq_nil_of_length_eq_zero (by omega); subst this; decide
 | succ n ih =>
  intro s h hd
  rcases List.eq_nil_or_concat s with rfl | ⟨t, c, rfl⟩
  ·exact Nat.pow_pos (by decide)
  ·rw [List.concat_eq_append] at h hd ⊢
   rw [List.all_append, Bool.and_eq_true] at hd
   have hc : isDig c = true := by simpa using hd.2
   unfold isDig at hc
   simp only [Bool.and_eq_true, decide_eq_true_eq] at hc
   have := ih t (by simp at h; omega) hd.1
   rw [valD_snoc, Nat.pow_succ]; omega
theorem bs_ne {s t : Bs} (h : s ≠ t) : (s == t) = false := by simpa using h
theorem c_fig (s : Bs) (h : figOK s = true) : Contract Tryz.prog 109 [.str s] (.int (valD s : Nat)) [] := by
 obtain ⟨h1, h2, h3, h4⟩ := figOK_iff.1 h
 have e1 := bs_ne h1
 have hle : decide ((s.length : Int) ≤ 12) = true := decide_eq_true (by omega)
 have hpos : 0 < s.length := List.length_pos_iff.2 h1
 have hv := valD_bnd 12 s h2 h4
 refine con_of follows_mixed Tryz.func109 rfl V105 V169 rfl ?_
 refine Exec.reg ?_
 have X := (Fx.mk e1).a hle
 refine Run.o1 V121 ?_
 refine Run.nil ?_
 by_cases hz : s = [48]
 ·skip
  have e2 : (s == [48]) = true := by rw [hz]; rfl
  refine Exec.reg ?_
  have X := X.a e2
  iterate 3 (refine Run.o1 V121 ?_)
  iterate 3 (refine Run.y1 V121 ?_)
  iterate 2 (refine Run.o1 V121 ?_)
  iterate 3 (refine Run.y1 V121 ?_)
  iterate 3 (refine Run.s ?_)
  refine Run.y1 V121 ?_
  refine Run.o1 V121 ?_
  refine Run.c1 (c_need true rfl) V121 V121 ?_
  refine Run.nil (Exec.assocS (Exec.reg ?_))
  iterate 2 (refine Run.o1 V121 ?_)
  refine Run.nil (Exec.blk ?_)
  refine Exec.whl [2, 23] [23] (fun (p : Nat) => [.slot 2 (.int (valD (s.take p) : Nat)), .slot 23 (.leaf (.obj 23)), .obj 23 (.sit (bs s) p)]) (fun p => p ≤ s.length) (fun p => s.length - p) (0) (fun p => by simp only [go_sem] <;> rfl) (by simp only [go_sem, X.h, Bool.not_false, Bool.not_true, Int.natCast_zero] <;> rfl) ?_ (fun p hX => ?_)
  ·exact Nat.zero_le _
  ·skip
   by_cases hp : p < s.length
   ·skip
    obtain ⟨c, hx⟩ : ∃ c, s[p]? = some c := ⟨_, List.getElem?_eq_getElem hp⟩
    have hcd : isDig c = true := List.all_eq_true.1 h4 c (List.mem_of_getElem? hx)
    unfold isDig at hcd
    simp only [Bool.and_eq_true, decide_eq_true_eq] at hcd
    have hec : s[p] = c := by rw [List.getElem?_eq_getElem hp] at hx; exact Option.some.inj hx
    have hdec := dec_low s p hp (by rw [hec]; omega)
    rw [hec] at hdec
    have d1 : decide ((48 : Int) ≤ (c.toNat : Int)) = true := decide_eq_true (by omega)
    have d2 : decide ((c.toNat : Int) ≤ 57) = true := decide_eq_true (by omega)
    have hvt := valD_take hx
    have hvb := valD_bnd 12 (s.take p) V160 (List.all_eq_true.2 fun x hx => List.all_eq_true.1 h4 x (List.mem_of_mem_take hx))
    refine Exec.reg ?_
    have X := (((X.a hp).a hdec).a d1).a d2
    iterate 2 (refine Run.o1 V121 ?_)
    refine Run.nil ?_
    refine Exec.cndS V121 (fun hb25 => ?_) (fun hb25 => ?_)
    ·skip
     refine Exec.skipS (Exec.blk1 (Exec.reg ?_))
     iterate 2 (refine Run.o1 V121 ?_)
     refine Run.nil (Exec.reg ?_)
     iterate 3 (refine Run.o1 V121 ?_)
     iterate 2 (refine Run.y1 V121 ?_)
     refine Run.o1 V121 ?_
     refine Run.c1 (c_need true rfl) V121 V121 ?_
     refine Run.nil (Exec.reg1 ?_)
     refine Run.o1 V121 ?_
     refine Run.o1 V52 ?_
     refine Run.o1 V121 ?_
     iterate 3 (refine Run.o1 V52 ?_)
     refine Run.o1 V121 ?_
     refine Run.nil (Blk1K.nrm ?_)
     refine WhlK.nxt (p + 1) ?_ ?_ ?_
     ·show s.length - (p + 1) < s.length - p; omega
     ·show p + 1 ≤ s.length; omega
     ·exact Ghost.kp [2, 23] [23] (by simp only [go_sem, X.h, Bool.not_false, Bool.not_true] <;> first | ((repeat' (first | with_reducible_and_instances rfl | refine st_eq ?_ ?_ ?_ | refine ret_eq ?_ | refine tup_eq ?_ | refine tm_eq ?_ ?_ | refine arr_eq ?_ | refine cells_eq ?_ | refine val_eq ?_ | refine ls_eq ?_ ?_ | refine own_eq ?_ ?_ | refine sl_eq ?_ | refine b_eq ?_ | (refine i_eq ?_; omega))); all_goals (first | omega | (rw [hvt]; omega))) | rfl)
    ·exact absurd hb25 (by simp)
   ·skip
    have hpe : p = s.length := by omega
    subst hpe
    have htk : s.take s.length = s := List.take_length
    refine Exec.reg ?_
    have X := (X.a hp).a htk
    iterate 2 (refine Run.o1 V121 ?_)
    refine Run.nil ?_
    refine Exec.cndS V121 (fun hb25 => ?_) (fun hb25 => ?_)
    ·exact absurd hb25 (by simp)
    ·skip
     refine Exec.exitS (WhlK.ext (BlkK.hit (Exec.reg ?_)))
     iterate 2 (refine Run.o1 V121 ?_)
     refine Run.nil ?_
     exact Ends.fin [] (rs := [.tmp 2]) rfl V121 (by simp only [go_sem, X.h, Bool.not_false, Bool.not_true] <;> first | rfl | exact eqz)
 ·skip
  have e2 := bs_ne hz
  have hc0 : s.head? ≠ some 48 := h3.resolve_left hz
  obtain ⟨c0, hx0⟩ : ∃ c, s[0]? = some c := ⟨_, List.getElem?_eq_getElem hpos⟩
  have hn0 : ((c0.toNat : Int) != 48) = true := by
   simp only [bne_iff_ne, ne_eq]
   intro e
   apply hc0
   rw [List.head?_eq_getElem?, hx0]
   congr 1
   have : c0.toNat = 48 := by omega
   exact UInt8.toNat_inj.1 this
  refine Exec.reg ?_
  have X := ((X.a e2).a hx0).a hn0
  iterate 3 (refine Run.o1 V97 ?_)
  iterate 3 (refine Run.y1 V97 ?_)
  iterate 2 (refine Run.o1 V97 ?_)
  iterate 7 (refine Run.y1 V97 ?_)
  refine Run.o1 V97 ?_
  refine Run.c1 (c_need true rfl) V97 V97 ?_
  refine Run.nil (Exec.assocS (Exec.reg ?_))
  iterate 2 (refine Run.o1 V97 ?_)
  refine Run.nil (Exec.blk ?_)
  refine Exec.whl [2, 23] [23] (fun (p : Nat) => [.slot 2 (.int (valD (s.take p) : Nat)), .slot 23 (.leaf (.obj 23)), .obj 23 (.sit (bs s) p)]) (fun p => p ≤ s.length) (fun p => s.length - p) (0) (fun p => by simp only [go_sem] <;> rfl) (by simp only [go_sem, X.h, Bool.not_false, Bool.not_true, Int.toNat_zero, Int.natCast_zero] <;> rfl) ?_ (fun p hX => ?_)
  ·exact Nat.zero_le _
  ·skip
   by_cases hp : p < s.length
   ·skip
    obtain ⟨c, hx⟩ : ∃ c, s[p]? = some c := ⟨_, List.getElem?_eq_getElem hp⟩
    have hcd : isDig c = true := List.all_eq_true.1 h4 c (List.mem_of_getElem? hx)
    unfold isDig at hcd
    simp only [Bool.and_eq_true, decide_eq_true_eq] at hcd
    have hec : s[p] = c := by rw [List.getElem?_eq_getElem hp] at hx; exact Option.some.inj hx
    have hdec := dec_low s p hp (by rw [hec]; omega)
    rw [hec] at hdec
    have d1 : decide ((48 : Int) ≤ (c.toNat : Int)) = true := decide_eq_true (by omega)
    have d2 : decide ((c.toNat : Int) ≤ 57) = true := decide_eq_true (by omega)
    have hvt := valD_take hx
    have hvb := valD_bnd 12 (s.take p) V160 (List.all_eq_true.2 fun x hx => List.all_eq_true.1 h4 x (List.mem_of_mem_take hx))
    refine Exec.reg ?_
    have X := (((X.a hp).a hdec).a d1).a d2
    iterate 2 (refine Run.o1 V97 ?_)
    refine Run.nil ?_
    refine Exec.cndS V97 (fun hb25 => ?_) (fun hb25 => ?_)
    ·skip
     refine Exec.skipS (Exec.blk1 (Exec.reg ?_))
     iterate 2 (refine Run.o1 V97 ?_)
     refine Run.nil (Exec.reg ?_)
     iterate 3 (refine Run.o1 V97 ?_)
     iterate 2 (refine Run.y1 V97 ?_)
     refine Run.o1 V97 ?_
     refine Run.c1 (c_need true rfl) V97 V97 ?_
     refine Run.nil (Exec.reg1 ?_)
     refine Run.o1 V97 ?_
     refine Run.o1 V45 ?_
     refine Run.o1 V97 ?_
     iterate 3 (refine Run.o1 V45 ?_)
     refine Run.o1 V97 ?_
     refine Run.nil (Blk1K.nrm ?_)
     refine WhlK.nxt (p + 1) ?_ ?_ ?_
     ·show s.length - (p + 1) < s.length - p; omega
     ·show p + 1 ≤ s.length; omega
     ·exact Ghost.kp [2, 23] [23] V16
    ·exact absurd hb25 (by simp)
   ·skip
    have hpe : p = s.length := by omega
    subst hpe
    have htk : s.take s.length = s := List.take_length
    refine Exec.reg ?_
    have X := (X.a hp).a htk
    iterate 2 (refine Run.o1 V97 ?_)
    refine Run.nil ?_
    refine Exec.cndS V97 (fun hb25 => ?_) (fun hb25 => ?_)
    ·exact absurd hb25 (by simp)
    ·skip
     refine Exec.exitS (WhlK.ext (BlkK.hit (Exec.reg ?_)))
     iterate 2 (refine Run.o1 V97 ?_)
     refine Run.nil ?_
     exact Ends.fin [] (rs := [.tmp 2]) rfl V97 (by simp only [go_sem, X.h, Bool.not_false, Bool.not_true, Int.toNat_zero] <;> first | rfl | exact eqz)
theorem p_figA : Pan Tryz.prog pvE 109 [.str []] [] := by
 refine pan_of follows_mixed Tryz.func109 rfl V105 V169 rfl ?_
 refine Exec.reg ?_
 refine Run.o1 V145 ?_
 refine Run.nil ?_
 refine Exec.pan (pv := pvE) 16 rfl ?_
 iterate 3 (refine Run.o1 V145 ?_)
 iterate 3 (refine Run.s ?_)
 iterate 2 (refine Run.o1 V145 ?_)
 iterate 7 (refine Run.s ?_)
 refine Run.o1 V145 ?_
 exact Run.panc (p_need false rfl) V164 V145 V74 rfl
theorem p_figB (s : Bs) (h1 : 12 < s.length) (hl : s.length ≤ 1000000000) : Pan Tryz.prog pvE 109 [.str s] [] := by
 have hne : s ≠ [] := fun e => by rw [e] at h1; simp at h1
 have e1 := bs_ne hne
 have hle : decide ((s.length : Int) ≤ 12) = false := decide_eq_false (by omega)
 refine pan_of follows_mixed Tryz.func109 rfl V105 V169 rfl ?_
 refine Exec.reg ?_
 have X := (Fx.mk e1).a hle
 refine Run.o1 V136 ?_
 refine Run.nil ?_
 refine Exec.pan (pv := pvE) 16 rfl ?_
 iterate 3 (refine Run.o1 V136 ?_)
 iterate 3 (refine Run.y1 V136 ?_)
 iterate 2 (refine Run.o1 V136 ?_)
 iterate 7 (refine Run.s ?_)
 refine Run.o1 V136 ?_
 exact Run.panc (p_need false rfl) V164 V136 V74 rfl
theorem p_figC (s : Bs) (h1 : s.length ≤ 12) (hz : s ≠ [48]) (h0 : s[0]? = some 48) : Pan Tryz.prog pvE 109 [.str s] [] := by
 have hne : s ≠ [] := fun e => by rw [e] at h0; simp at h0
 have e1 := bs_ne hne
 have e2 := bs_ne hz
 have hle : decide ((s.length : Int) ≤ 12) = true := decide_eq_true (by omega)
 have h48 : (((48 : UInt8).toNat : Int) != 48) = false := rfl
 refine pan_of follows_mixed Tryz.func109 rfl V105 V169 rfl ?_
 refine Exec.reg ?_
 have X := ((((Fx.mk e1).a e2).a hle).a h0).a h48
 refine Run.o1 V118 ?_
 refine Run.nil ?_
 refine Exec.pan (pv := pvE) 16 rfl ?_
 iterate 3 (refine Run.o1 V118 ?_)
 iterate 3 (refine Run.y1 V118 ?_)
 iterate 2 (refine Run.o1 V118 ?_)
 iterate 7 (refine Run.y1 V118 ?_)
 refine Run.o1 V118 ?_
 exact Run.panc (p_need false rfl) V164 V118 V74 rfl
theorem p_figD (s a r : Bs) (c0 : UInt8) (hs : s = a ++ c0 :: r) (h1 : s.length ≤ 12) (h3 : s = [48] ∨ s.head? ≠ some 48) (h4 : a.all isDig = true) (h5 : isDig c0 = false) : Pan Tryz.prog pvE 109 [.str s] [] := by
 have hsl : s.length = a.length + (r.length + 1) := by rw [hs]; simp
 have hne : s ≠ [] := fun e => by rw [e] at hsl; simp at hsl
 have e1 := bs_ne hne
 have hle : decide ((s.length : Int) ≤ 12) = true := decide_eq_true (by omega)
 have hpos : 0 < s.length := by omega
 refine pan_of follows_mixed Tryz.func109 rfl V105 V169 rfl ?_
 refine Exec.reg ?_
 have X := (Fx.mk e1).a hle
 refine Run.o1 V121 ?_
 refine Run.nil ?_
 by_cases hz : s = [48]
 ·skip
  exfalso
  rw [hz] at hs
  cases a with
  | nil => simp at hs; rw [← hs.1] at h5; cases h5
  | cons y a => simp at hs
 ·skip
  have e2 := bs_ne hz
  have hc0 : s.head? ≠ some 48 := h3.resolve_left hz
  obtain ⟨d0, hx0⟩ : ∃ c, s[0]? = some c := ⟨_, List.getElem?_eq_getElem hpos⟩
  have hn0 : ((d0.toNat : Int) != 48) = true := by
   simp only [bne_iff_ne, ne_eq]
   intro e
   apply hc0
   rw [List.head?_eq_getElem?, hx0]
   congr 1
   have : d0.toNat = 48 := by omega
   exact UInt8.toNat_inj.1 this
  refine Exec.reg ?_
  have X := ((X.a e2).a hx0).a hn0
  iterate 3 (refine Run.o1 V97 ?_)
  iterate 3 (refine Run.y1 V97 ?_)
  iterate 2 (refine Run.o1 V97 ?_)
  iterate 7 (refine Run.y1 V97 ?_)
  refine Run.o1 V97 ?_
  refine Run.c1 (c_need true rfl) V97 V97 ?_
  refine Run.nil (Exec.assocS (Exec.reg ?_))
  iterate 2 (refine Run.o1 V97 ?_)
  refine Run.nil (Exec.blk ?_)
  refine Exec.whl [2, 23] [23] (fun (p : Nat) => [.slot 2 (.int (valD (s.take p) : Nat)), .slot 23 (.leaf (.obj 23)), .obj 23 (.sit (bs s) p)]) (fun p => p ≤ a.length) (fun p => a.length - p) (0) (fun p => by simp only [go_sem] <;> rfl) (by simp only [go_sem, X.h, Bool.not_false, Bool.not_true, Int.toNat_zero, Int.natCast_zero] <;> rfl) ?_ (fun p hX => ?_)
  ·exact Nat.zero_le _
  ·skip
   have hp : p < s.length := by have : p ≤ a.length := hX; omega
   refine Exec.reg ?_
   have X := X.a hp
   iterate 2 (refine Run.o1 V97 ?_)
   refine Run.nil ?_
   refine Exec.cndS V97 (fun hb25 => ?_) (fun hb25 => ?_)
   ·skip
    refine Exec.skipS (Exec.blk1 (Exec.reg ?_))
    iterate 2 (refine Run.o1 V97 ?_)
    refine Run.nil ?_
    by_cases hpa : p < a.length
    ·skip
     obtain ⟨c, hxa⟩ : ∃ c, a[p]? = some c := ⟨_, List.getElem?_eq_getElem hpa⟩
     have hx : s[p]? = some c := by rw [hs, List.getElem?_append_left hpa]; exact hxa
     have hcd : isDig c = true := List.all_eq_true.1 h4 c (List.mem_of_getElem? hxa)
     unfold isDig at hcd
     simp only [Bool.and_eq_true, decide_eq_true_eq] at hcd
     have hec : s[p] = c := by rw [List.getElem?_eq_getElem hp] at hx; exact Option.some.inj hx
     have hdec := dec_low s p hp (by rw [hec]; omega)
     rw [hec] at hdec
     have d1 : decide ((48 : Int) ≤ (c.toNat : Int)) = true := decide_eq_true (by omega)
     have d2 : decide ((c.toNat : Int) ≤ 57) = true := decide_eq_true (by omega)
     have hvt := valD_take hx
     have htp : s.take p = a.take p := by rw [hs, List.take_append_of_le_length (by omega)]
     have hvb := valD_bnd 12 (s.take p) V160 (by rw [htp]; exact List.all_eq_true.2 fun x hx => List.all_eq_true.1 h4 x (List.mem_of_mem_take hx))
     refine Exec.reg ?_
     have X := ((X.a hdec).a d1).a d2
     iterate 3 (refine Run.o1 V97 ?_)
     iterate 2 (refine Run.y1 V97 ?_)
     refine Run.o1 V97 ?_
     refine Run.c1 (c_need true rfl) V97 V97 ?_
     refine Run.nil (Exec.reg1 ?_)
     refine Run.o1 V97 ?_
     refine Run.o1 V45 ?_
     refine Run.o1 V97 ?_
     iterate 3 (refine Run.o1 V45 ?_)
     refine Run.o1 V97 ?_
     refine Run.nil (Blk1K.nrm ?_)
     refine WhlK.nxt (p + 1) ?_ ?_ ?_
     ·show a.length - (p + 1) < a.length - p; omega
     ·show p + 1 ≤ a.length; omega
     ·exact Ghost.kp [2, 23] [23] V16
    ·skip
     have hpe : p = a.length := by omega
     have hsc : s[p]? = some c0 := by rw [hs, hpe, List.getElem?_append_right (Nat.le_refl _), Nat.sub_self]; rfl
     have hec : s[p] = c0 := by rw [List.getElem?_eq_getElem hp] at hsc; exact Option.some.inj hsc
     have hnd : ¬ (48 ≤ (Utf8.decode (bs s) p).1 ∧ (Utf8.decode (bs s) p).1 ≤ 57) := fun ⟨g1, g2⟩ => by
      have := (rune_dig hp g1 g2).2.2
      rw [hec, h5] at this; cases this
     by_cases hv : 48 ≤ (Utf8.decode (bs s) p).1
     ·skip
      have d1 : decide ((48 : Int) ≤ (((Utf8.decode (bs s) p).1 : Nat) : Int)) = true := decide_eq_true (by omega)
      have d2 : decide ((((Utf8.decode (bs s) p).1 : Nat) : Int) ≤ 57) = false := decide_eq_false (by omega)
      refine Exec.pan (pv := pvE) 6 rfl ?_
      have X := (X.a d1).a d2
      iterate 3 (refine Run.o1 V97 ?_)
      iterate 2 (refine Run.y1 V97 ?_)
      refine Run.o1 V97 ?_
      exact Run.panc (p_need false rfl) V164 V97 V74 rfl
     ·skip
      have d1 : decide ((48 : Int) ≤ (((Utf8.decode (bs s) p).1 : Nat) : Int)) = false := decide_eq_false (by omega)
      refine Exec.pan (pv := pvE) 6 rfl ?_
      have X := X.a d1
      iterate 3 (refine Run.o1 V97 ?_)
      iterate 2 (refine Run.s ?_)
      refine Run.o1 V97 ?_
      exact Run.panc (p_need false rfl) V164 V97 V74 rfl
   ·exact absurd hb25 (by simp)
end Go.Mw
namespace Go.Bk
open Go.Lib
theorem ix_hit (c : UInt8) : ∀ (a r : Bs), c ∉ a → index (a ++ c :: r) [c] = a.length
 | [], r, _ => by
  have h : [c].isPrefixOf (c :: r) = true := by simp
  show index (c :: r) [c] = _
  unfold index
  rw [if_pos h]; rfl
 | x :: a, r, h => by
  have hx : c ≠ x := fun e => h (by simp [e])
  have hp : ¬ [c].isPrefixOf (x :: (a ++ c :: r)) = true := by simp [hx]
  have ih := ix_hit c a r fun e => h (by simp [e])
  show index (x :: (a ++ c :: r)) [c] = _
  unfold index
  rw [if_neg hp, ih]
  have : (((a.length : Nat) : Int) == -1) = false := by rw [beq_eq_false_iff_ne]; omega
  simp [this]
theorem ix_none (c : UInt8) : ∀ (a : Bs), c ∉ a → index a [c] = -1
 | [], _ => rfl
 | x :: a, h => by
  have hx : c ≠ x := fun e => h (by simp [e])
  have hp : ¬ [c].isPrefixOf (x :: a) = true := by simp [hx]
  have ih := ix_none c a fun e => h (by simp [e])
  unfold index
  rw [if_neg hp, ih]; rfl
theorem cut_hit (c : UInt8) (a r : Bs) (h : c ∉ a) : cut (a ++ c :: r) [c] = (a, r, true) := by
 unfold cut
 rw [ix_hit c a r h, if_pos (by omega), Int.toNat_natCast]
 simp
theorem cut_none (c : UInt8) (a : Bs) (h : c ∉ a) : cut a [c] = (a, [], false) := by
 unfold cut
 rw [ix_none c a h, if_neg (by decide)]
theorem first_of (c : UInt8) (s : Bs) (h : c ∈ s) : ∃ a r, s = a ++ c :: r ∧ c ∉ a := by
 induction s with
 | nil => cases h
 | cons x s ih =>
  by_cases e : x = c
  ·subst e; exact ⟨[], s, rfl, by simp⟩
  ·obtain ⟨a, r, e1, e2⟩ := ih (by rcases List.mem_cons.1 h with h | h; exact absurd h.symm e; exact h)
   exact ⟨x :: a, r, by rw [e1]; rfl, fun h => by rcases List.mem_cons.1 h with h | h; exact e h.symm; exact e2 h⟩
theorem cf_one (c : UInt8) : ∀ (n : Nat) (s : Bs), s.length < n → countFrom [c] n s = s.count c
 | 0, s, h => by omega
 | n + 1, s, h => by
  unfold countFrom
  by_cases hc : c ∈ s
  ·obtain ⟨a, r, rfl, ha⟩ := first_of c s hc
   rw [ix_hit c a r ha]
   have h1 : (((a.length : Nat) : Int) == -1) = false := by rw [beq_eq_false_iff_ne]; omega
   rw [h1]
   have hd : (a ++ c :: r).drop (((a.length : Nat) : Int).toNat + [c].length) = r := by simp
   rw [hd, cf_one c n r (by simp at h; omega)]
   simp [List.count_append, List.count_eq_zero_of_not_mem ha]; omega
  ·rw [ix_none c s hc, List.count_eq_zero_of_not_mem hc]; rfl
theorem sk_one (c : UInt8) : ∀ (n : Nat) (s : Bs), s.length ≤ n → splitK [c] 0 (s.count c) s = cutB c s
 | n, s, h => by
  by_cases hc : c ∈ s
  ·obtain ⟨a, r, rfl, ha⟩ := first_of c s hc
   have hn : (a ++ c :: r).count c = r.count c + 1 := by simp [List.count_append, List.count_eq_zero_of_not_mem ha]
   rw [hn, splitK, ix_hit c a r ha]
   have h1 : (((a.length : Nat) : Int) == -1) = false := by rw [beq_eq_false_iff_ne]; omega
   rw [h1]
   have hd : (a ++ c :: r).drop (((a.length : Nat) : Int).toNat + [c].length) = r := by simp
   rw [hd, cutB_app c a r ha]
   have hl : r.length < n := by simp at h; omega
   match n, hl with
   | n + 1, hl => rw [sk_one c n r (by omega)]; simp
  ·rw [List.count_eq_zero_of_not_mem hc, cutB_none c s hc]; rfl
end Go.Bk
namespace Go.Mw
open Go.Proofs Go.Bk
theorem gMax145 : Tryz.prog.globalNamed "internal/bytealg.MaxLen" = some (Tryz.lays145_ren.g 1) := by kernel_rfl
theorem gMax146 : Tryz.prog.globalNamed "internal/bytealg.MaxLen" = some (Tryz.lays146_ren.g 1) := by kernel_rfl
theorem pieces_cut (s : Bs) (c : UInt8) : piecesB s [c] = (cutB c s).map encStr := by
 have hc : Lib.countB (bs s) (bs [c]) = s.count c := by
  show Lib.count (bs s).data.toList (bs [c]).data.toList = _
  rw [bs_toList, bs_toList]
  exact cf_one c _ s (Nat.lt_succ_self _)
 have hd := Lib.splitB_data (bs [c]) 0 (s.count c) (bs s)
 rw [bs_toList, bs_toList, sk_one c _ s (Nat.le_refl _)] at hd
 unfold piecesB
 rw [hc, ← hd, List.map_map]
 refine List.map_congr_left fun x _ => ?_
 show _ = [D.raw (.string (bs x.data.toList))]
 rw [bs_data]
theorem c_Split1 (s : Bs) (c : UInt8) (hs : s.length ≤ 1000000000) : Contract Tryz.prog 107 [.str s, .str [c]] (.leaf (.own 900 0 (cutB c s).length (cutB c s).length)) [(900, .arr 9 1 ((cutB c s).map encStr))] := by
 have h := c_Split s [c] (by simp) (by omega) _ gMax146 rfl
 rw [pieces_cut, List.length_map] at h
 exact h
theorem c_Cut1 (a r : Bs) (c : UInt8) (ha : c ∉ a) (hs : a.length + r.length ≤ 1000000000) : Contract Tryz.prog 150 [.str (a ++ c :: r), .str [c]] (.tup [(false, [.d (.raw (.string (bs a)))]), (false, [.d (.raw (.string (bs r)))]), (false, [.d (.raw (.bool true))])]) [] := by
 have h := c_Cut (a ++ c :: r) [c] V168 _ gMax145 rfl
 rw [cut_hit c a r ha] at h
 exact h
theorem c_Cut0 (a : Bs) (c : UInt8) (ha : c ∉ a) (hs : a.length ≤ 1000000000) : Contract Tryz.prog 150 [.str a, .str [c]] (.tup [(false, [.d (.raw (.string (bs a)))]), (false, [.d (.raw (.string (bs [])))]), (false, [.d (.raw (.bool false))])]) [] := by
 have h := c_Cut a [c] (by omega) _ gMax145 rfl
 rw [cut_none c a ha] at h
 exact h
end Go.Mw
namespace Go.Mw
open Go.Proofs
open Go.Bk
attribute [local go_sem] decide_true beq_self_eq_true bne_self_eq_false
theorem dig_split : ∀ (s : Bs), s.all isDig = false → ∃ a c r, s = a ++ c :: r ∧ a.all isDig = true ∧ isDig c = false
 | [], h => by cases h
 | x :: s, h => by
  by_cases hx : isDig x = true
  ·rw [List.all_cons, hx, Bool.true_and] at h
   obtain ⟨a, c, r, e, h1, h2⟩ := dig_split s h
   exact ⟨x :: a, c, r, by rw [e]; rfl, by rw [List.all_cons, hx, h1]; rfl, h2⟩
  ·exact ⟨[], x, s, rfl, rfl, by simpa using hx⟩
theorem p_fig {s : Bs} (h : figOK s = false) (hl : s.length ≤ 1000000000) : Pan Tryz.prog pvE 109 [.str s] [] := by
 by_cases h0 : s = []
 ·subst h0; exact p_figA
 ·by_cases h1 : s.length ≤ 12
  ·by_cases h2 : s = [48] ∨ s.head? ≠ some 48
   ·have h3 : s.all isDig = false := by
     rw [← Bool.not_eq_true]
     intro h3
     rw [figOK_iff.2 ⟨h0, h1, h2, h3⟩] at h; cases h
    obtain ⟨a, c, r, e, h4, h5⟩ := dig_split s h3
    exact p_figD s a r c e h1 h2 h4 h5
   ·have hz : s ≠ [48] := fun e => h2 (.inl e)
    have hh : s.head? = some 48 := Decidable.byContradiction fun e => h2 (.inr e)
    exact p_figC s h1 hz (by rw [← List.head?_eq_getElem?]; exact hh)
  ·exact p_figB s (by omega) hl
theorem fig_bnd {s : Bs} (h : figOK s = true) : valD s < 1000000000000 := by
 obtain ⟨h1, h2, h3, h4⟩ := figOK_iff.1 h
 exact valD_bnd 12 s h2 h4
theorem c_gr0 (w : Bs) (hx : 120 ∉ w) (hl : w.length ≤ 1000000000) (h : figOK w = true) : Contract Tryz.prog 110 [.str w] (.val true [.d (.i 1), .d (.i (valD w : Nat))]) [] := by
 refine con_of follows_mixed Tryz.func110 rfl V106 V169 rfl ?_
 refine Exec.reg ?_
 refine Run.o1 V144 ?_
 refine Run.nil (Exec.reg ?_)
 refine Run.o1 V144 ?_
 refine Run.c1 (c_Cut0 w 120 hx hl) V144 V144 ?_
 iterate 7 (refine Run.o1 V144 ?_)
 refine Run.nil (Exec.assocS (Exec.reg ?_))
 iterate 2 (refine Run.o1 V144 ?_)
 refine Run.nil ?_
 refine Exec.cndS V144 (fun hb14 => ?_) (fun hb14 => ?_)
 ·skip
  refine Exec.assocS (Exec.reg ?_)
  refine Run.o1 V144 ?_
  refine Run.c1 (c_fig w h) V144 V144 ?_
  iterate 2 (refine Run.o1 V144 ?_)
  refine Run.nil (Exec.retS ?_)
  exact Ends.fin [] (rs := [.cell 2 96]) rfl V144 (by simp only [go_sem, Bool.not_false] <;> first | rfl | exact eqz)
 ·exact absurd hb14 (by simp)
theorem p_gr0 (w : Bs) (hx : 120 ∉ w) (hl : w.length ≤ 1000000000) (h : figOK w = false) : Pan Tryz.prog pvE 110 [.str w] [] := by
 refine pan_of follows_mixed Tryz.func110 rfl V106 V169 rfl ?_
 refine Exec.reg ?_
 refine Run.o1 V144 ?_
 refine Run.nil (Exec.reg ?_)
 refine Run.o1 V144 ?_
 refine Run.c1 (c_Cut0 w 120 hx hl) V144 V144 ?_
 iterate 7 (refine Run.o1 V144 ?_)
 refine Run.nil (Exec.assocS (Exec.reg ?_))
 iterate 2 (refine Run.o1 V144 ?_)
 refine Run.nil ?_
 refine Exec.cndS V144 (fun hb14 => ?_) (fun hb14 => ?_)
 ·skip
  refine Exec.assocS ?_
  refine Exec.pan (pv := pvE) 1 rfl ?_
  refine Run.o1 V144 ?_
  exact Run.panc (p_fig h hl) V164 V144 V74 rfl
 ·exact absurd hb14 (by simp)
theorem c_gr1 (a r : Bs) (hx : 120 ∉ a) (hl : a.length + r.length ≤ 1000000000) (ha : figOK a = true) (hr : figOK r = true) (hin : inD (valD a : Nat) 2 16 = true) : Contract Tryz.prog 110 [.str (a ++ 120 :: r)] (.val true [.d (.i (valD a : Nat)), .d (.i (valD r : Nat))]) [] := by
 refine con_of follows_mixed Tryz.func110 rfl V106 V169 rfl ?_
 refine Exec.reg ?_
 have X := Fx.mk hin
 refine Run.o1 V139 ?_
 refine Run.nil (Exec.reg ?_)
 refine Run.o1 V139 ?_
 refine Run.c1 (c_Cut1 a r 120 hx hl) V139 V139 ?_
 iterate 7 (refine Run.o1 V139 ?_)
 refine Run.nil (Exec.assocS (Exec.reg ?_))
 iterate 2 (refine Run.o1 V139 ?_)
 refine Run.nil ?_
 refine Exec.cndS V139 (fun hb14 => ?_) (fun hb14 => ?_)
 ·exact absurd hb14 (by simp)
 ·skip
  refine Exec.skipS (Exec.reg ?_)
  refine Run.o1 V139 ?_
  refine Run.c1 (c_fig a ha) V139 V139 ?_
  refine Run.o1 V139 ?_
  refine Run.c1 (c_fig r hr) V139 V139 ?_
  iterate 3 (refine Run.o1 V139 ?_)
  refine Run.nil (Exec.reg ?_)
  iterate 2 (refine Run.o1 V139 ?_)
  refine Run.c1 (c_within (valD a : Nat) 2 16) V139 V139 ?_
  refine Run.c1 (c_need true rfl) V139 V139 ?_
  refine Run.nil (Exec.reg ?_)
  iterate 2 (refine Run.o1 V139 ?_)
  refine Run.nil ?_
  exact Ends.fin [] (rs := [.cell 2 96]) rfl V139 (by simp only [go_sem, X.h, Bool.not_true] <;> first | rfl | exact eqz)
theorem p_grA (a r : Bs) (hx : 120 ∉ a) (hl : a.length + r.length ≤ 1000000000) (ha : figOK a = false) : Pan Tryz.prog pvE 110 [.str (a ++ 120 :: r)] [] := by
 refine pan_of follows_mixed Tryz.func110 rfl V106 V169 rfl ?_
 refine Exec.reg ?_
 refine Run.o1 V145 ?_
 refine Run.nil (Exec.reg ?_)
 refine Run.o1 V145 ?_
 refine Run.c1 (c_Cut1 a r 120 hx hl) V145 V145 ?_
 iterate 7 (refine Run.o1 V145 ?_)
 refine Run.nil (Exec.assocS (Exec.reg ?_))
 iterate 2 (refine Run.o1 V145 ?_)
 refine Run.nil ?_
 refine Exec.cndS V145 (fun hb14 => ?_) (fun hb14 => ?_)
 ·exact absurd hb14 (by simp)
 ·skip
  refine Exec.skipS ?_
  refine Exec.pan (pv := pvE) 1 rfl ?_
  refine Run.o1 V145 ?_
  exact Run.panc (p_fig ha (by omega)) V164 V145 V74 rfl
theorem p_grB (a r : Bs) (hx : 120 ∉ a) (hl : a.length + r.length ≤ 1000000000) (ha : figOK a = true) (hr : figOK r = false) : Pan Tryz.prog pvE 110 [.str (a ++ 120 :: r)] [] := by
 refine pan_of follows_mixed Tryz.func110 rfl V106 V169 rfl ?_
 refine Exec.reg ?_
 refine Run.o1 V145 ?_
 refine Run.nil (Exec.reg ?_)
 refine Run.o1 V145 ?_
 refine Run.c1 (c_Cut1 a r 120 hx hl) V145 V145 ?_
 iterate 7 (refine Run.o1 V145 ?_)
 refine Run.nil (Exec.assocS (Exec.reg ?_))
 iterate 2 (refine Run.o1 V145 ?_)
 refine Run.nil ?_
 refine Exec.cndS V145 (fun hb14 => ?_) (fun hb14 => ?_)
 ·exact absurd hb14 (by simp)
 ·skip
  refine Exec.skipS ?_
  refine Exec.pan (pv := pvE) 3 rfl ?_
  refine Run.o1 V145 ?_
  refine Run.c1 (c_fig a ha) V145 V145 ?_
  refine Run.o1 V145 ?_
  exact Run.panc (p_fig hr (by omega)) V164 V145 V74 rfl
theorem p_grC (a r : Bs) (hx : 120 ∉ a) (hl : a.length + r.length ≤ 1000000000) (ha : figOK a = true) (hr : figOK r = true) (hin : inD (valD a : Nat) 2 16 = false) : Pan Tryz.prog pvE 110 [.str (a ++ 120 :: r)] [] := by
 refine pan_of follows_mixed Tryz.func110 rfl V106 V169 rfl ?_
 refine Exec.reg ?_
 have X := Fx.mk hin
 refine Run.o1 V139 ?_
 refine Run.nil (Exec.reg ?_)
 refine Run.o1 V139 ?_
 refine Run.c1 (c_Cut1 a r 120 hx hl) V139 V139 ?_
 iterate 7 (refine Run.o1 V139 ?_)
 refine Run.nil (Exec.assocS (Exec.reg ?_))
 iterate 2 (refine Run.o1 V139 ?_)
 refine Run.nil ?_
 refine Exec.cndS V139 (fun hb14 => ?_) (fun hb14 => ?_)
 ·exact absurd hb14 (by simp)
 ·skip
  refine Exec.skipS (Exec.reg ?_)
  refine Run.o1 V139 ?_
  refine Run.c1 (c_fig a ha) V139 V139 ?_
  refine Run.o1 V139 ?_
  refine Run.c1 (c_fig r hr) V139 V139 ?_
  iterate 3 (refine Run.o1 V139 ?_)
  refine Run.nil ?_
  refine Exec.pan (pv := pvE) 3 rfl ?_
  iterate 2 (refine Run.o1 V139 ?_)
  refine Run.c1 (c_within (valD a : Nat) 2 16) V139 V139 ?_
  exact Run.panc (p_need false rfl) V164 V139 V74 rfl
theorem c_grow {w : Bs} {g : Nat × Int} (hl : w.length ≤ 1000000000) (h : growP w = some g) : Contract Tryz.prog 110 [.str w] (.val true [.d (.i g.1), .d (.i g.2)]) [] := by
 unfold growP at h
 by_cases hx : (120 : UInt8) ∈ w
 ·obtain ⟨a, r, rfl, ha⟩ := first_of 120 w hx
  rw [cutB_app 120 a r ha] at h
  have hd : (a ++ 120 :: r).drop (a.length + 1) = r := by simp
  have hne := cutB_ne 120 r
  cases hc : cutB 120 r with
  | nil => exact absurd hc hne
  | cons y ys =>
   rw [hc] at h
   simp only [hd] at h
   split at h
   ·next hcond =>
    cases h
    exact c_gr1 a r ha (by simp at hl; omega) hcond.1.1 hcond.1.2 (inD_iff.2 (by omega))
   ·cases h
 ·rw [cutB_none 120 w hx] at h
  simp only at h
  split at h
  ·next hf => cases h; exact c_gr0 w hx hl hf
  ·cases h
theorem p_grow {w : Bs} (hl : w.length ≤ 1000000000) (h : growP w = none) : Pan Tryz.prog pvE 110 [.str w] [] := by
 unfold growP at h
 by_cases hx : (120 : UInt8) ∈ w
 ·obtain ⟨a, r, rfl, ha⟩ := first_of 120 w hx
  have hl2 : a.length + r.length ≤ 1000000000 := by simp at hl; omega
  rw [cutB_app 120 a r ha] at h
  have hd : (a ++ 120 :: r).drop (a.length + 1) = r := by simp
  have hne := cutB_ne 120 r
  cases hc : cutB 120 r with
  | nil => exact absurd hc hne
  | cons y ys =>
   rw [hc] at h
   simp only [hd] at h
   cases h1 : figOK a with
   | false => exact p_grA a r ha hl2 h1
   | true =>
    cases h2 : figOK r with
    | false => exact p_grB a r ha hl2 h1 h2
    | true =>
     refine p_grC a r ha hl2 h1 h2 ?_
     rw [← Bool.not_eq_true]
     intro h3
     have := inD_iff.1 h3
     rw [h1, h2, if_pos ⟨⟨rfl, rfl⟩, by omega⟩] at h
     cases h
 ·rw [cutB_none 120 w hx] at h
  simp only at h
  cases hf : figOK w with
  | false => exact p_gr0 w hx hl hf
  | true => rw [hf, if_pos rfl] at h; cases h
end Go.Mw
namespace Go.Mw
open Go.Proofs
open Go.Bk
attribute [local go_sem] decide_true beq_self_eq_true bne_self_eq_false
theorem suf_one (s : Bs) (c : UInt8) (h : s.getLast? = some c) : Lib.hasSuffix s [c] = true ∧ Lib.trimSuffix s [c] = s.dropLast := by
 rcases List.eq_nil_or_concat s with rfl | ⟨t, d, rfl⟩
 ·cases h
 ·rw [List.concat_eq_append] at h ⊢
  have : d = c := by simpa using h
  subst this
  constructor
  ·simp [Lib.hasSuffix]
  ·simp [Lib.trimSuffix, Lib.hasSuffix]
theorem suf_no (s : Bs) (c : UInt8) (h : s.getLast? ≠ some c) : Lib.hasSuffix s [c] = false := by
 rcases List.eq_nil_or_concat s with rfl | ⟨t, d, rfl⟩
 ·simp [Lib.hasSuffix]
 ·rw [List.concat_eq_append] at h ⊢
  have : ¬ c = d := fun e => h (by rw [e]; simp)
  simp [Lib.hasSuffix, List.isSuffixOf, List.isPrefixOf, this]
theorem c_lines0 : Contract Tryz.prog 53 [.str []] (.leaf (.d (strsD []))) [] := by
 refine con_of follows_mixed Tryz.func53 rfl V109 V169 rfl ?_
 refine Exec.reg ?_
 refine Run.o ?_
 refine Run.nil (Exec.assocS (Exec.reg ?_))
 iterate 2 (refine Run.o ?_)
 refine Run.nil ?_
 refine Exec.cndS V162 (fun hb4 => ?_) (fun hb4 => ?_)
 ·skip
  refine Exec.assocS (Exec.reg ?_)
  refine Run.o ?_
  refine Run.nild 2 1 V162 V162 ?_
  refine Run.nil (Exec.retS ?_)
  exact Ends.fin [] (rs := [.tmp 2]) rfl V162 V137
 ·exact absurd hb4 (by simp)
theorem c_lines1 (s : Bs) (h : s.getLast? = some 10) (hl : s.length ≤ 1000000000) : Contract Tryz.prog 53 [.str s] (.leaf (.d (strsD (cutB 10 s.dropLast)))) [] := by
 obtain ⟨g1, g2⟩ := suf_one s 10 h
 have hne : s ≠ [] := fun e => by rw [e] at h; cases h
 have e1 := bs_ne hne
 have c1 := c_HasSuffix s [10] (by omega)
 have c2 := c_TrimSuffix s [10] (by omega)
 rw [g1] at c1
 rw [g2] at c2
 have hdl : s.dropLast.length ≤ 1000000000 := by rw [List.length_dropLast]; omega
 have htk : ((cutB 10 s.dropLast).map encStr).take (cutB 10 s.dropLast).length = (cutB 10 s.dropLast).map encStr := List.take_of_length_le (by simp)
 refine con_of follows_mixed Tryz.func53 rfl V109 V169 rfl ?_
 refine Exec.reg ?_
 have X := Fx.mk e1
 refine Run.o1 V158 ?_
 refine Run.nil (Exec.assocS (Exec.reg ?_))
 iterate 2 (refine Run.o1 V158 ?_)
 refine Run.nil ?_
 refine Exec.cndS V158 (fun hb4 => ?_) (fun hb4 => ?_)
 ·exact absurd hb4 (by simp)
 ·skip
  refine Exec.skipS (Exec.reg ?_)
  refine Run.o1 V158 ?_
  refine Run.c1 (c1) V158 V158 ?_
  refine Run.c1 (c_need true rfl) V158 V158 ?_
  refine Run.nil (Exec.reg ?_)
  refine Run.o1 V158 ?_
  refine Run.c1 (c2) V158 V158 ?_
  refine Run.cal (c_Split1 s.dropLast 10 hdl) V164 V158 V32 (fr1 V162) V158 ?_
  refine Run.o1 V158 ?_
  have X := Fx.mk htk
  refine Run.frz 11900 (by simp only [go_sem, X.h, List.length_map] <;> rfl) ?_
  refine Run.nil ?_
  have X := Fx.mk e1
  exact Ends.fin [] (rs := [.tmp 2]) rfl V158 V129
theorem p_lines1 (s : Bs) (h0 : s ≠ []) (h : s.getLast? ≠ some 10) (hl : s.length ≤ 1000000000) : Pan Tryz.prog pvE 53 [.str s] [] := by
 have g1 := suf_no s 10 h
 have e1 := bs_ne h0
 have c1 := c_HasSuffix s [10] (by omega)
 rw [g1] at c1
 refine pan_of follows_mixed Tryz.func53 rfl V109 V169 rfl ?_
 refine Exec.reg ?_
 have X := Fx.mk e1
 refine Run.o1 V158 ?_
 refine Run.nil (Exec.assocS (Exec.reg ?_))
 iterate 2 (refine Run.o1 V158 ?_)
 refine Run.nil ?_
 refine Exec.cndS V158 (fun hb4 => ?_) (fun hb4 => ?_)
 ·exact absurd hb4 (by simp)
 ·skip
  refine Exec.skipS ?_
  refine Exec.pan (pv := pvE) 2 rfl ?_
  refine Run.o1 V158 ?_
  refine Run.c1 (c1) V158 V158 ?_
  exact Run.panc (p_need false rfl) V164 V158 V74 rfl
theorem c_lines {s : Bs} {ls : List Bs} (hl : s.length ≤ 1000000000) (h : linesP s = some ls) : Contract Tryz.prog 53 [.str s] (.leaf (.d (strsD ls))) [] := by
 unfold linesP at h
 split at h
 ·next e => cases h; subst e; exact c_lines0
 ·split at h
  ·next e => cases h; exact c_lines1 s e hl
  ·cases h
theorem p_lines {s : Bs} (hl : s.length ≤ 1000000000) (h : linesP s = none) : Pan Tryz.prog pvE 53 [.str s] [] := by
 unfold linesP at h
 split at h
 ·cases h
 ·next e0 =>
  split at h
  ·cases h
  ·next e => exact p_lines1 s e0 e hl
end Go.Mw
namespace Go.Bk
def stK : St → List Bs → Nat → St
 | s, _, 0 => s
 | s, [], _ => s
 | s, w :: ws, k + 1 => match wordP s w with
  | some t => stK t ws k
  | none => s
theorem stK_zero (s : St) (ws : List Bs) : stK s ws 0 = s := by cases ws <;> rfl
theorem stK_cons {s t : St} {w : Bs} (h : wordP s w = some t) (ws : List Bs) (k : Nat) : stK s (w :: ws) (k + 1) = stK t ws k := by rw [stK, h]
theorem stK_all : ∀ (ws : List Bs) (s f : St), ws.foldlM wordP s = some f → stK s ws ws.length = f ∧ ∀ k w, ws[k]? = some w → wordP (stK s ws k) w = some (stK s ws (k + 1))
 | [], s, f, h => by
  have : s = f := by simpa using h
  subst this
  exact ⟨rfl, fun k w hk => by simp at hk⟩
 | w :: ws, s, f, h => by
  rw [List.foldlM_cons] at h
  obtain ⟨t, h1, h2⟩ := Option.bind_eq_some_iff.1 h
  obtain ⟨g1, g2⟩ := stK_all ws t f h2
  refine ⟨by rw [List.length_cons, stK_cons h1]; exact g1, fun k v hk => ?_⟩
  cases k with
  | zero =>
   have : w = v := by simpa using hk
   subst this
   rw [stK_zero, stK_cons h1, stK_zero]; exact h1
  | succ k => rw [stK_cons h1, stK_cons h1]; exact g2 k v (by simpa using hk)
theorem wordP_some {s t : St} {w : Bs} (h : wordP s w = some t) : ∃ g, growP w = some g ∧ (s.last.1 = 0 ∨ s.last.2 ≠ g.2) ∧ s.reads.length + g.1 ≤ 16 ∧ t = ⟨appN g.2 g.1 s.reads, g⟩ := by
 unfold wordP at h
 obtain ⟨g, h1, h2⟩ := Option.bind_eq_some_iff.1 h
 split at h2
 ·next hc => cases h2; exact ⟨g, h1, hc.1, hc.2, rfl⟩
 ·cases h2
def boundP (r : List Int) : Prop := r ≠ [] ∧ r.length ≤ 16 ∧ 0 ≤ lastD r ∧ lastD r ≤ 1000000000000 * r.length
theorem boundP_step {r : List Int} {d : Int} (h : boundP r) (hd : 0 ≤ d ∧ d ≤ 1000000000000) : ∀ (j : Nat), r.length + j ≤ 16 → boundP (appN d j r)
 | 0, _ => h
 | j + 1, hj => by
  obtain ⟨h1, h2, h3, h4⟩ := boundP_step h hd j (by omega)
  rw [appN_succ]
  refine ⟨by simp, ?_, ?_, ?_⟩
  ·rw [List.length_append, List.length_singleton, appN_len]; omega
  ·rw [lastD_snoc]; omega
  ·rw [lastD_snoc, List.length_append, List.length_singleton, appN_len]
   rw [appN_len] at h4
   push_cast at h4 ⊢
   omega
end Go.Bk
namespace Go.Bk
theorem fold_len {s f : St} {ws : List Bs} (hs : s.reads.length ≤ 16) (h : ws.foldlM wordP s = some f) : f.reads.length ≤ 16 := by
 obtain ⟨g1, g2⟩ := stK_all ws s f h
 cases hn : ws.length with
 | zero =>
  have : ws = [] := List.eq_nil_of_length_eq_zero hn
  subst this
  rw [List.length_nil, stK_zero] at g1
  rw [← g1]; exact hs
 | succ n =>
  obtain ⟨w, hw⟩ : ∃ w, ws[n]? = some w := ⟨_, List.getElem?_eq_getElem (by omega)⟩
  obtain ⟨g, _, _, h3, h4⟩ := wordP_some (g2 n w hw)
  rw [hn, h4] at g1
  rw [← g1]
  show (appN g.2 g.1 _).length ≤ 16
  rw [appN_len]; exact h3
theorem pageP_len {line : Bs} {pg : Pg} (h : pageP line = some pg) : pg.reads.length ≤ 16 := by
 unfold pageP at h
 split at h
 ·cases h
 ·split at h
  ·cases h; simp
  ·cases h
 ·split at h
  ·obtain ⟨sf, h1, h2⟩ := Option.map_eq_some_iff.1 h
   cases h2
   exact fold_len (by simp) h1
  ·cases h
theorem mapM_at : ∀ (ls : List Bs) (l : List Pg), ls.mapM pageP = some l → l.length = ls.length ∧ ∀ (k : Nat) (line : Bs), ls[k]? = some line → ∃ pg : Pg, pageP line = some pg ∧ l[k]? = some pg
 | [], l, h => by
  have : l = [] := by simpa using h.symm
  subst this
  exact ⟨rfl, fun k line hk => by simp at hk⟩
 | x :: ls, l, h => by
  rw [List.mapM_cons] at h
  obtain ⟨p, h1, h2⟩ := Option.bind_eq_some_iff.1 h
  obtain ⟨ps, h3, h4⟩ := Option.bind_eq_some_iff.1 h2
  cases h4
  obtain ⟨g1, g2⟩ := mapM_at ls ps h3
  refine ⟨by simp [g1], fun k line hk => ?_⟩
  cases k with
  | zero =>
   have : x = line := by simpa using hk
   subst this
   exact ⟨p, h1, rfl⟩
  | succ k =>
   obtain ⟨pg, e1, e2⟩ := g2 k line (by simpa using hk)
   exact ⟨pg, e1, by simpa using e2⟩
theorem mapM_none : ∀ (ls : List Bs), ls.mapM pageP = none → ∃ (q : Nat) (line : Bs) (l : List Pg), ls[q]? = some line ∧ pageP line = none ∧ (ls.take q).mapM pageP = some l
 | [], h => by cases h
 | x :: ls, h => by
  rw [List.mapM_cons] at h
  cases h1 : pageP x with
  | none => exact ⟨0, x, [], rfl, h1, rfl⟩
  | some p =>
   rw [h1] at h
   cases h2 : ls.mapM pageP with
   | some ps => rw [h2] at h; cases h
   | none =>
    obtain ⟨q, line, l, e1, e2, e3⟩ := mapM_none ls h2
    refine ⟨q + 1, line, p :: l, by simpa using e1, e2, ?_⟩
    rw [List.take_succ_cons, List.mapM_cons, h1, e3]; rfl
end Go.Bk
namespace Go.Mw
open Go.Proofs
open Go.Bk
attribute [local go_sem] decide_true beq_self_eq_true bne_self_eq_false
theorem cut_len (c : UInt8) : ∀ (s w : Bs), w ∈ cutB c s → w.length ≤ s.length
 | [], w, h => by simp [cutB] at h; subst h; simp
 | x :: s, w, h => by
  unfold cutB at h
  split at h
  ·rcases List.mem_cons.1 h with h | h
   ·subst h; simp
   ·have := cut_len c s w h; simp; omega
  ·split at h
   ·simp at h; subst h; simp
   ·next a r hc =>
    rcases List.mem_cons.1 h with h | h
    ·subst h
     have := cut_len c s a (by rw [hc]; simp)
     simp; omega
    ·have := cut_len c s w (by rw [hc]; simp [h])
     simp; omega
theorem cut_cnt (c : UInt8) : ∀ (s : Bs), (cutB c s).length ≤ s.length + 1
 | [] => by simp [cutB]
 | x :: s => by
  have ih := cut_cnt c s
  unfold cutB
  split
  ·simp; omega
  ·split
   ·simp
   ·next a r hc => rw [hc] at ih; simp at ih ⊢; omega
theorem last_get {l : List Int} (h : l ≠ []) : l[l.length - 1]? = some (lastD l) := by
 rw [← List.getLast?_eq_getElem?]
 unfold lastD
 cases hl : l.getLast? with
 | none => exact absurd (List.getLast?_eq_none_iff.1 hl) h
 | some x => rfl
theorem growP_bnd {w : Bs} {g : Nat × Int} (h : growP w = some g) : 1 ≤ g.1 ∧ g.1 ≤ 16 ∧ 0 ≤ g.2 ∧ g.2 < 1000000000000 := by
 unfold growP at h
 split at h
 ·split at h
  ·next hf => cases h; have := fig_bnd hf; exact ⟨by simp, by simp, by simp, by show ((valD _ : Nat) : Int) < _; omega⟩
  ·cases h
 ·split at h
  ·next hf => cases h; have := fig_bnd hf.1.2; exact ⟨by show 1 ≤ valD _; omega, hf.2.2, by simp, by show ((valD _ : Nat) : Int) < _; omega⟩
  ·cases h
 ·cases h
theorem c_pgB (line h r : Bs) (ws : List Bs) (hc : cutB 32 line = h :: r :: ws) (hl : line.length ≤ 1000000000) (fh : figOK h = true) (fr : figOK r = true) (sf : St) (hf : ws.foldlM wordP ⟨[(valD r : Int)], (0, 0)⟩ = some sf) : Contract Tryz.prog 54 [.str line] (.val true [.d (.i (valD h : Nat)), .d (intsD sf.reads)]) [] := by
 have hwn := cut_cnt 32 line
 rw [hc] at hwn
 simp only [List.length_cons] at hwn
 have hsp := c_Split1 line 32 hl
 rw [hc] at hsp
 have hwl := cut_len 32 line
 rw [hc] at hwl
 obtain ⟨hsf, hstep⟩ := stK_all ws _ sf hf
 have bh := fig_bnd fh
 have br := fig_bnd fr
 have hgt : decide (((ws.length : Int) + 1 + 1) > 1) = true := decide_eq_true (by omega)
 have hgt2 : decide ((((ws.length + 1 + 1 : Nat)) : Int) > 1) = true := decide_eq_true (by omega)
 have htk : (((h :: r :: ws).map encStr)).take (h :: r :: ws).length = (h :: r :: ws).map encStr := List.take_of_length_le (by simp)
 have hbs : ∀ k, k ≤ ws.length → boundP (stK ⟨[(valD r : Int)], (0, 0)⟩ ws k).reads := fun k hk => by
  induction k with
  | zero => rw [stK_zero]; exact ⟨by simp, by simp, by simp [lastD], by simp [lastD]; omega⟩
  | succ k ih =>
   obtain ⟨w, hw⟩ : ∃ w, ws[k]? = some w := ⟨_, List.getElem?_eq_getElem (by omega)⟩
   obtain ⟨g, g1, g2, g3, g4⟩ := wordP_some (hstep k w hw)
   rw [g4]
   have := growP_bnd g1
   exact boundP_step (ih (by omega)) ⟨by omega, by omega⟩ g.1 (by omega)
 have h2n : Int.toNat 2 = 2 := rfl
 have htw : List.take ws.length (List.map encStr ws) = List.map encStr ws := List.take_of_length_le (by simp)
 refine con_of follows_mixed Tryz.func54 rfl V110 V169 rfl ?_
 refine Exec.reg ?_
 have X := (((Fx.mk hgt).a hgt2).a h2n).a htw
 refine Run.o1 V41 ?_
 refine Run.nil (Exec.reg ?_)
 refine Run.o1 V41 ?_
 refine Run.cal (hsp) V164 V41 V32 (fr1 V162) V41 ?_
 refine Run.o1 V41 ?_
 have X := Fx.mk htk
 refine Run.frz 11900 V96 ?_
 refine Run.nil (Exec.reg ?_)
 have X := (((Fx.mk hgt).a hgt2).a h2n).a htw
 refine Run.o1 V41 ?_
 refine Run.o1 V15 ?_
 refine Run.o1 V41 ?_
 refine Run.c1 (c_fig h fh) V41 V41 ?_
 iterate 3 (refine Run.o1 V41 ?_)
 refine Run.nil (Exec.assocS (Exec.reg ?_))
 iterate 3 (refine Run.o1 V41 ?_)
 refine Run.nil ?_
 refine Exec.cndS V41 (fun hb18 => ?_) (fun hb18 => ?_)
 ·skip
  refine Exec.assocS (Exec.reg ?_)
  refine Run.o1 V41 ?_
  refine Run.o1 V15 ?_
  refine Run.o1 V41 ?_
  refine Run.c1 (c_fig r fr) V41 V41 ?_
  iterate 3 (refine Run.o1 V41 ?_)
  refine Run.nil (Exec.assocS (Exec.reg ?_))
  iterate 3 (refine Run.o1 V41 ?_)
  refine Run.nil (Exec.assocS (Exec.reg ?_))
  refine Run.o1 V41 ?_
  refine Run.o1 V15 ?_
  iterate 2 (refine Run.o1 V41 ?_)
  refine Run.nil (Exec.blk ?_)
  refine Exec.forA [2, 4, 5, 27, 28, 29] [2, 4, 5, 23] (ws.length) (fun k => [.slot 29 (.int k), .obj 4 (.cells [.d (.i (valD h : Nat)), .own 23 0 (stK ⟨[(valD r : Int)], (0, 0)⟩ ws k).reads.length (stK ⟨[(valD r : Int)], (0, 0)⟩ ws k).reads.length]), .obj 23 (.arr 3 1 ((stK ⟨[(valD r : Int)], (0, 0)⟩ ws k).reads.map encInt)), .obj 5 (.cells [.d (.i ((stK ⟨[(valD r : Int)], (0, 0)⟩ ws k).last.1 : Nat)), .d (.i (stK ⟨[(valD r : Int)], (0, 0)⟩ ws k).last.2)])]) (fun _ => True) (fun k => by simp only [go_sem] <;> rfl) V28 ?_ (fun k hk hX => ?_)
  ·trivial
  ·skip
   refine Exec.reg ?_
   refine Run.o1 V41 ?_
   refine Run.nil ?_
   refine Exec.cndS V41 (fun hb30 => ?_) (fun hb30 => ?_)
   ·skip
    have hlt : k < ws.length := by simpa using hb30
    obtain ⟨w, hw⟩ : ∃ w, ws[k]? = some w := ⟨_, List.getElem?_eq_getElem hlt⟩
    obtain ⟨g, hg, hnb, hlen, hst⟩ := wordP_some (hstep k w hw)
    have hwk : w.length ≤ 1000000000 := Nat.le_trans (hwl w (List.mem_cons_of_mem _ (List.mem_cons_of_mem _ (List.mem_of_getElem? hw)))) hl
    have hgb := growP_bnd hg
    have hbk := hbs k (by omega)
    have hal := appN_len g.2 g.1 (stK ⟨[(valD r : Int)], (0, 0)⟩ ws k).reads
    refine Exec.skipS (Exec.blk (Exec.reg ?_))
    have X := (X.a hw).a hst
    refine Run.o1 V15 ?_
    iterate 2 (refine Run.o1 V41 ?_)
    refine Run.nil (Exec.reg ?_)
    refine Run.o1 V41 ?_
    refine Run.c1 (c_grow hwk hg) V41 V41 ?_
    iterate 2 (refine Run.o1 V41 ?_)
    refine Run.nil ?_
    by_cases h0 : (stK ⟨[(valD r : Int)], (0, 0)⟩ ws k).last.1 = 0
    ·skip
     have e0 : ((((stK ⟨[(valD r : Int)], (0, 0)⟩ ws k).last.1 : Nat) : Int) == 0) = true := by rw [h0]; rfl
     refine Exec.reg ?_
     have X := X.a e0
     iterate 4 (refine Run.o1 V41 ?_)
     iterate 5 (refine Run.s ?_)
     refine Run.o1 V41 ?_
     refine Run.c1 (c_need true rfl) V41 V41 ?_
     refine Run.nil (Exec.assocS (Exec.reg ?_))
     iterate 3 (refine Run.o1 V41 ?_)
     refine Run.nil (Exec.blk ?_)
     refine Exec.forA [2, 4, 5, 8, 27, 28, 29, 47, 48] [2, 4, 5, 8, 23] (g.1) (fun j => [.slot 48 (.int j), .obj 4 (.cells [.d (.i (valD h : Nat)), .own 23 0 (appN g.2 j (stK ⟨[(valD r : Int)], (0, 0)⟩ ws k).reads).length (appN g.2 j (stK ⟨[(valD r : Int)], (0, 0)⟩ ws k).reads).length]), .obj 23 (.arr 3 1 ((appN g.2 j (stK ⟨[(valD r : Int)], (0, 0)⟩ ws k).reads).map encInt))]) (fun _ => True) (fun j => by simp only [go_sem] <;> rfl) V35 ?_ (fun j hj Xj => ?_)
     ·trivial
     ·skip
      refine Exec.reg ?_
      refine Run.o1 V41 ?_
      refine Run.nil ?_
      refine Exec.cndS V41 (fun hb49 => ?_) (fun hb49 => ?_)
      ·skip
       have hj : j < g.1 := by have := of_decide_eq_true hb49; omega
       have hRl := appN_len g.2 j (stK ⟨[(valD r : Int)], (0, 0)⟩ ws k).reads
       have hbj := boundP_step hbk ⟨hgb.2.2.1, by omega⟩ j (by omega)
       have hp1 : 1 ≤ (appN g.2 j (stK ⟨[(valD r : Int)], (0, 0)⟩ ws k).reads).length := List.length_pos_iff.2 hbj.1
       have hlg := last_get hbj.1
       have hl16 : decide (((appN g.2 j (stK ⟨[(valD r : Int)], (0, 0)⟩ ws k).reads).length : Int) < 16) = true := decide_eq_true (by omega)
       have h1n : (((appN g.2 j (stK ⟨[(valD r : Int)], (0, 0)⟩ ws k).reads).length : Int) - 1).toNat = (appN g.2 j (stK ⟨[(valD r : Int)], (0, 0)⟩ ws k).reads).length - 1 := by omega
       have hsu := appN_succ g.2 j (stK ⟨[(valD r : Int)], (0, 0)⟩ ws k).reads
       have hb3 := hbj.2.2.1
       have hb4 := hbj.2.2.2
       refine Exec.skipS (Exec.blk (Exec.reg ?_))
       have X := (((X.a hl16).a h1n).a hlg).a hsu
       iterate 4 (refine Run.o1 V41 ?_)
       refine Run.c1 (c_need true rfl) V41 V41 ?_
       refine Run.nil ?_
       refine Exec.opk1 19 ?_
       iterate 7 (refine OpenK.o1 V41 ?_)
       refine OpenK.o1 V26 ?_
       refine OpenK.o1 V15 ?_
       iterate 3 (refine OpenK.o1 V41 ?_)
       refine OpenK.o1 V26 ?_
       refine OpenK.o1 V41 ?_
       refine OpenK.o1 V1 ?_
       iterate 2 (refine OpenK.o1 V41 ?_)
       refine OpenK.nil (OpenE.finT V169 V169 V169 ?_)
       refine BlkK.nrm (Exec.reg1 ?_)
       refine Run.o1 V26 ?_
       refine Run.o1 V41 ?_
       refine Run.nil ?_
       refine ForK.nxt ?_ ?_ ?_
       ·omega
       ·exact Ghost.kp [2, 4, 5, 8, 27, 28, 29, 47, 48] [2, 4, 5, 8, 23] V9
       ·trivial
      ·skip
       have hje : j = g.1 := by have := of_decide_eq_false hb49; omega
       subst hje
       refine Exec.exitS (ForK.ext (BlkK.hit (Exec.reg1 ?_)))
       iterate 2 (refine Run.o1 V41 ?_)
       refine Run.nil (BlkK.nrm (Exec.reg1 ?_))
       refine Run.o1 V26 ?_
       refine Run.o1 V41 ?_
       refine Run.nil ?_
       refine ForK.nxt ?_ ?_ ?_
       ·omega
       ·exact Ghost.kp [2, 4, 5, 27, 28, 29] [2, 4, 5, 23] V36
       ·trivial
    ·skip
     have e0 : ((((stK ⟨[(valD r : Int)], (0, 0)⟩ ws k).last.1 : Nat) : Int) == 0) = false := by simpa using h0
     have e5 : ((stK ⟨[(valD r : Int)], (0, 0)⟩ ws k).last.2 != g.2) = true := by simpa using hnb.resolve_left h0
     refine Exec.reg ?_
     have X := (X.a e0).a e5
     iterate 4 (refine Run.o1 V41 ?_)
     iterate 5 (refine Run.y1 V41 ?_)
     refine Run.o1 V41 ?_
     refine Run.c1 (c_need true rfl) V41 V41 ?_
     refine Run.nil (Exec.assocS (Exec.reg ?_))
     iterate 3 (refine Run.o1 V41 ?_)
     refine Run.nil (Exec.blk ?_)
     refine Exec.forA [2, 4, 5, 8, 27, 28, 29, 47, 48] [2, 4, 5, 8, 23] (g.1) (fun j => [.slot 48 (.int j), .obj 4 (.cells [.d (.i (valD h : Nat)), .own 23 0 (appN g.2 j (stK ⟨[(valD r : Int)], (0, 0)⟩ ws k).reads).length (appN g.2 j (stK ⟨[(valD r : Int)], (0, 0)⟩ ws k).reads).length]), .obj 23 (.arr 3 1 ((appN g.2 j (stK ⟨[(valD r : Int)], (0, 0)⟩ ws k).reads).map encInt))]) (fun _ => True) (fun j => by simp only [go_sem] <;> rfl) V35 ?_ (fun j hj Xj => ?_)
     ·trivial
     ·skip
      refine Exec.reg ?_
      refine Run.o1 V41 ?_
      refine Run.nil ?_
      refine Exec.cndS V41 (fun hb49 => ?_) (fun hb49 => ?_)
      ·skip
       have hj : j < g.1 := by have := of_decide_eq_true hb49; omega
       have hRl := appN_len g.2 j (stK ⟨[(valD r : Int)], (0, 0)⟩ ws k).reads
       have hbj := boundP_step hbk ⟨hgb.2.2.1, by omega⟩ j (by omega)
       have hp1 : 1 ≤ (appN g.2 j (stK ⟨[(valD r : Int)], (0, 0)⟩ ws k).reads).length := List.length_pos_iff.2 hbj.1
       have hlg := last_get hbj.1
       have hl16 : decide (((appN g.2 j (stK ⟨[(valD r : Int)], (0, 0)⟩ ws k).reads).length : Int) < 16) = true := decide_eq_true (by omega)
       have h1n : (((appN g.2 j (stK ⟨[(valD r : Int)], (0, 0)⟩ ws k).reads).length : Int) - 1).toNat = (appN g.2 j (stK ⟨[(valD r : Int)], (0, 0)⟩ ws k).reads).length - 1 := by omega
       have hsu := appN_succ g.2 j (stK ⟨[(valD r : Int)], (0, 0)⟩ ws k).reads
       have hb3 := hbj.2.2.1
       have hb4 := hbj.2.2.2
       refine Exec.skipS (Exec.blk (Exec.reg ?_))
       have X := (((X.a hl16).a h1n).a hlg).a hsu
       iterate 4 (refine Run.o1 V41 ?_)
       refine Run.c1 (c_need true rfl) V41 V41 ?_
       refine Run.nil ?_
       refine Exec.opk1 19 ?_
       iterate 7 (refine OpenK.o1 V41 ?_)
       refine OpenK.o1 V26 ?_
       refine OpenK.o1 V15 ?_
       iterate 3 (refine OpenK.o1 V41 ?_)
       refine OpenK.o1 V26 ?_
       refine OpenK.o1 V41 ?_
       refine OpenK.o1 V1 ?_
       iterate 2 (refine OpenK.o1 V41 ?_)
       refine OpenK.nil (OpenE.finT V169 V169 V169 ?_)
       refine BlkK.nrm (Exec.reg1 ?_)
       refine Run.o1 V26 ?_
       refine Run.o1 V41 ?_
       refine Run.nil ?_
       refine ForK.nxt ?_ ?_ ?_
       ·omega
       ·exact Ghost.kp [2, 4, 5, 8, 27, 28, 29, 47, 48] [2, 4, 5, 8, 23] V9
       ·trivial
      ·skip
       have hje : j = g.1 := by have := of_decide_eq_false hb49; omega
       subst hje
       refine Exec.exitS (ForK.ext (BlkK.hit (Exec.reg1 ?_)))
       iterate 2 (refine Run.o1 V41 ?_)
       refine Run.nil (BlkK.nrm (Exec.reg1 ?_))
       refine Run.o1 V26 ?_
       refine Run.o1 V41 ?_
       refine Run.nil ?_
       refine ForK.nxt ?_ ?_ ?_
       ·omega
       ·exact Ghost.kp [2, 4, 5, 27, 28, 29] [2, 4, 5, 23] V36
       ·trivial
   ·skip
    have hke : k = ws.length := by have h9 : ws.length ≤ k := (by simpa using hb30); omega
    subst hke
    have hta : List.take sf.reads.length (List.map encInt sf.reads) = List.map encInt sf.reads := List.take_of_length_le (by simp)
    refine Exec.exitS (ForK.ext (BlkK.hit (Exec.reg ?_)))
    have X := Fx.mk hta
    refine Run.frz 23 V158 ?_
    have X := (((((Fx.mk hgt).a hgt2).a h2n).a htw).a hsf).a hta
    iterate 2 (refine Run.o1 V41 ?_)
    refine Run.nil ?_
    exact Ends.fin [] (rs := [.cell 2 31]) rfl V41 (by simp only [go_sem, X.h, List.map_cons, List.length_cons, List.length_map, List.getElem?_cons_zero, List.getElem?_cons_succ, Int.toNat_zero, Int.toNat_one, List.drop_succ_cons, List.drop_zero] <;> first | rfl | exact eqz)
 ·exact absurd hb18 (by simp)
end Go.Mw
namespace Go.Mw
open Go.Proofs
open Go.Bk
attribute [local go_sem] decide_true beq_self_eq_true bne_self_eq_false
theorem c_pgA0 (line h : Bs) (hc : cutB 32 line = [h]) (hl : line.length ≤ 1000000000) (fh : figOK h = true) : Contract Tryz.prog 54 [.str line] (.val true [.d (.i (valD h : Nat)), .d (.raw (.slice none 0 0))]) [] := by
 have hsp := c_Split1 line 32 hl
 rw [hc] at hsp
 have h11 : decide (((0 : Int) + 1) > 1) = false := rfl
 have h12 : decide ((1 : Int) > 1) = false := rfl
 have h13 : decide (((0 + 1 : Nat) : Int) > 1) = false := rfl
 have h14 : decide (((1 : Nat) : Int) > 1) = false := rfl
 refine con_of follows_mixed Tryz.func54 rfl V110 V169 rfl ?_
 refine Exec.reg ?_
 have X := (((Fx.mk h11).a h12).a h13).a h14
 refine Run.o1 V71 ?_
 refine Run.nil (Exec.reg ?_)
 refine Run.o1 V71 ?_
 refine Run.cal (hsp) V164 V71 V32 (fr1 V162) V71 ?_
 refine Run.o1 V71 ?_
 refine Run.frz 11900 (by simp only [go_sem, List.map_cons, List.map_nil, List.length_cons, List.length_nil] <;> rfl) ?_
 refine Run.nil (Exec.reg ?_)
 refine Run.o1 V71 ?_
 refine Run.o1 V25 ?_
 refine Run.o1 V71 ?_
 refine Run.c1 (c_fig h fh) V71 V71 ?_
 iterate 3 (refine Run.o1 V71 ?_)
 refine Run.nil (Exec.assocS (Exec.reg ?_))
 iterate 3 (refine Run.o1 V71 ?_)
 refine Run.nil ?_
 refine Exec.cndS V71 (fun hb18 => ?_) (fun hb18 => ?_)
 ·exact absurd hb18 (by simp)
 ·skip
  refine Exec.skipS (Exec.reg ?_)
  iterate 2 (refine Run.o1 V71 ?_)
  refine Run.nil ?_
  exact Ends.fin [] (rs := [.cell 2 31]) rfl V71 (by simp only [go_sem, X.h, List.map_cons, List.map_nil, List.length_cons, List.length_nil, List.getElem?_cons_zero, Int.toNat_zero] <;> first | rfl | exact eqz)
theorem p_pgH (line h : Bs) (t : List Bs) (hc : cutB 32 line = h :: t) (hl : line.length ≤ 1000000000) (fh : figOK h = false) (hh : h.length ≤ 1000000000) : Pan Tryz.prog pvE 54 [.str line] [] := by
 have hsp := c_Split1 line 32 hl
 rw [hc] at hsp
 have h11 : decide (((0 : Int) + 1) > 1) = false := rfl
 have h12 : decide ((1 : Int) > 1) = false := rfl
 have h13 : decide (((0 + 1 : Nat) : Int) > 1) = false := rfl
 have h14 : decide (((1 : Nat) : Int) > 1) = false := rfl
 refine pan_of follows_mixed Tryz.func54 rfl V110 V169 rfl ?_
 refine Exec.reg ?_
 have X := (((Fx.mk h11).a h12).a h13).a h14
 refine Run.o1 V71 ?_
 refine Run.nil (Exec.reg ?_)
 refine Run.o1 V71 ?_
 refine Run.cal (hsp) V164 V71 V32 (fr1 V162) V71 ?_
 refine Run.o1 V71 ?_
 refine Run.frz 11900 (by simp only [go_sem, List.map_cons] <;> rfl) ?_
 refine Run.nil ?_
 refine Exec.pan (pv := pvE) 3 rfl ?_
 refine Run.o1 V71 ?_
 refine Run.o1 V25 ?_
 refine Run.o1 V71 ?_
 exact Run.panc (p_fig fh hh) V164 V71 V74 rfl
theorem Wk.nilV (a : AL) (k : Nat) : Wk (.val true [a, .d (.raw (.slice none 0 0))]) (.val true [a, .d (.sl k [])]) := by
 intro S ι H w v ⟨vs, hv, ha⟩
 refine ⟨vs, hv, ?_⟩
 match vs, ha with
 | [x, y], ⟨h1, h2, h3⟩ =>
  have h2' : RepD S w (.raw (.slice none 0 0)) y := h2
  cases h2'
  exact ⟨h1, RepD.nil _ _ _, h3⟩
theorem c_pgA (line h : Bs) (hc : cutB 32 line = [h]) (hl : line.length ≤ 1000000000) (fh : figOK h = true) : Contract Tryz.prog 54 [.str line] (.val true [.d (.i (valD h : Nat)), .d (intsD [])]) [] :=
 (c_pgA0 line h hc hl fh).weak (Wk.nilV _ 1)
theorem p_pgR (line h r : Bs) (t : List Bs) (hc : cutB 32 line = h :: r :: t) (hl : line.length ≤ 1000000000) (fh : figOK h = true) (fr : figOK r = false) (hr : r.length ≤ 1000000000) : Pan Tryz.prog pvE 54 [.str line] [] := by
 have hsp := c_Split1 line 32 hl
 rw [hc] at hsp
 have hgt : decide (((t.length : Int) + 1 + 1) > 1) = true := decide_eq_true (by omega)
 have hgt2 : decide ((((t.length + 1 + 1 : Nat)) : Int) > 1) = true := decide_eq_true (by omega)
 refine pan_of follows_mixed Tryz.func54 rfl V110 V169 rfl ?_
 refine Exec.reg ?_
 have X := (Fx.mk hgt).a hgt2
 refine Run.o1 V58 ?_
 refine Run.nil (Exec.reg ?_)
 refine Run.o1 V58 ?_
 refine Run.cal (hsp) V164 V58 V32 (fr1 V162) V58 ?_
 refine Run.o1 V58 ?_
 refine Run.frz 11900 (by simp only [go_sem, List.map_cons] <;> rfl) ?_
 refine Run.nil (Exec.reg ?_)
 refine Run.o1 V58 ?_
 refine Run.o1 V22 ?_
 refine Run.o1 V58 ?_
 refine Run.c1 (c_fig h fh) V58 V58 ?_
 iterate 3 (refine Run.o1 V58 ?_)
 refine Run.nil (Exec.assocS (Exec.reg ?_))
 iterate 3 (refine Run.o1 V58 ?_)
 refine Run.nil ?_
 refine Exec.cndS V58 (fun hb18 => ?_) (fun hb18 => ?_)
 ·skip
  refine Exec.assocS ?_
  refine Exec.pan (pv := pvE) 3 rfl ?_
  refine Run.o1 V58 ?_
  refine Run.o1 V22 ?_
  refine Run.o1 V58 ?_
  exact Run.panc (p_fig fr hr) V164 V58 V74 rfl
 ·skip
  exact absurd hb18 V168
end Go.Mw
namespace Go.Mw
open Go.Proofs
open Go.Bk
attribute [local go_sem] decide_true beq_self_eq_true bne_self_eq_false
theorem p_pgW1 (line h r : Bs) (ws : List Bs) (hc : cutB 32 line = h :: r :: ws) (hl : line.length ≤ 1000000000) (fh : figOK h = true) (fr : figOK r = true) (q : Nat) (w0 : Bs) (hw0 : ws[q]? = some w0) (hstep : ∀ k w, k < q → ws[k]? = some w → wordP (stK ⟨[(valD r : Int)], (0, 0)⟩ ws k) w = some (stK ⟨[(valD r : Int)], (0, 0)⟩ ws (k + 1))) (hg0 : growP w0 = none) : Pan Tryz.prog pvE 54 [.str line] [] := by
 have hqw := (List.getElem?_eq_some_iff.1 hw0).1
 have hwn := cut_cnt 32 line
 rw [hc] at hwn
 simp only [List.length_cons] at hwn
 have hsp := c_Split1 line 32 hl
 rw [hc] at hsp
 have hwl := cut_len 32 line
 rw [hc] at hwl
 have bh := fig_bnd fh
 have br := fig_bnd fr
 have hgt : decide (((ws.length : Int) + 1 + 1) > 1) = true := decide_eq_true (by omega)
 have hgt2 : decide ((((ws.length + 1 + 1 : Nat)) : Int) > 1) = true := decide_eq_true (by omega)
 have htk : (((h :: r :: ws).map encStr)).take (h :: r :: ws).length = (h :: r :: ws).map encStr := List.take_of_length_le (by simp)
 have hbs : ∀ k, k ≤ q → boundP (stK ⟨[(valD r : Int)], (0, 0)⟩ ws k).reads := fun k hk => by
  induction k with
  | zero => rw [stK_zero]; exact ⟨by simp, by simp, by simp [lastD], by simp [lastD]; omega⟩
  | succ k ih =>
   obtain ⟨w, hw⟩ : ∃ w, ws[k]? = some w := ⟨_, List.getElem?_eq_getElem (by omega)⟩
   obtain ⟨g, g1, g2, g3, g4⟩ := wordP_some (hstep k w (by omega) hw)
   rw [g4]
   have := growP_bnd g1
   exact boundP_step (ih (by omega)) ⟨by omega, by omega⟩ g.1 (by omega)
 have h2n : Int.toNat 2 = 2 := rfl
 have htw : List.take ws.length (List.map encStr ws) = List.map encStr ws := List.take_of_length_le (by simp)
 refine pan_of follows_mixed Tryz.func54 rfl V110 V169 rfl ?_
 refine Exec.reg ?_
 have X := (((Fx.mk hgt).a hgt2).a h2n).a htw
 refine Run.o1 V41 ?_
 refine Run.nil (Exec.reg ?_)
 refine Run.o1 V41 ?_
 refine Run.cal (hsp) V164 V41 V32 (fr1 V162) V41 ?_
 refine Run.o1 V41 ?_
 have X := Fx.mk htk
 refine Run.frz 11900 V96 ?_
 refine Run.nil (Exec.reg ?_)
 have X := (((Fx.mk hgt).a hgt2).a h2n).a htw
 refine Run.o1 V41 ?_
 refine Run.o1 V15 ?_
 refine Run.o1 V41 ?_
 refine Run.c1 (c_fig h fh) V41 V41 ?_
 iterate 3 (refine Run.o1 V41 ?_)
 refine Run.nil (Exec.assocS (Exec.reg ?_))
 iterate 3 (refine Run.o1 V41 ?_)
 refine Run.nil ?_
 refine Exec.cndS V41 (fun hb18 => ?_) (fun hb18 => ?_)
 ·skip
  refine Exec.assocS (Exec.reg ?_)
  refine Run.o1 V41 ?_
  refine Run.o1 V15 ?_
  refine Run.o1 V41 ?_
  refine Run.c1 (c_fig r fr) V41 V41 ?_
  iterate 3 (refine Run.o1 V41 ?_)
  refine Run.nil (Exec.assocS (Exec.reg ?_))
  iterate 3 (refine Run.o1 V41 ?_)
  refine Run.nil (Exec.assocS (Exec.reg ?_))
  refine Run.o1 V41 ?_
  refine Run.o1 V15 ?_
  iterate 2 (refine Run.o1 V41 ?_)
  refine Run.nil (Exec.blk ?_)
  refine Exec.forA [2, 4, 5, 27, 28, 29] [2, 4, 5, 23] (q) (fun k => [.slot 29 (.int k), .obj 4 (.cells [.d (.i (valD h : Nat)), .own 23 0 (stK ⟨[(valD r : Int)], (0, 0)⟩ ws k).reads.length (stK ⟨[(valD r : Int)], (0, 0)⟩ ws k).reads.length]), .obj 23 (.arr 3 1 ((stK ⟨[(valD r : Int)], (0, 0)⟩ ws k).reads.map encInt)), .obj 5 (.cells [.d (.i ((stK ⟨[(valD r : Int)], (0, 0)⟩ ws k).last.1 : Nat)), .d (.i (stK ⟨[(valD r : Int)], (0, 0)⟩ ws k).last.2)])]) (fun _ => True) (fun k => by simp only [go_sem] <;> rfl) V28 ?_ (fun k hk hX => ?_)
  ·trivial
  ·skip
   refine Exec.reg ?_
   refine Run.o1 V41 ?_
   refine Run.nil ?_
   refine Exec.cndS V41 (fun hb30 => ?_) (fun hb30 => ?_)
   ·skip
    have hlt : k < ws.length := by omega
    refine Exec.skipS (Exec.blk ?_)
    by_cases hkq : k < q
    ·skip
     obtain ⟨w, hw⟩ : ∃ w, ws[k]? = some w := ⟨_, List.getElem?_eq_getElem (by omega)⟩
     obtain ⟨g, hg, hnb, hlen, hst⟩ := wordP_some (hstep k w hkq hw)
     have hwk : w.length ≤ 1000000000 := Nat.le_trans (hwl w (List.mem_cons_of_mem _ (List.mem_cons_of_mem _ (List.mem_of_getElem? hw)))) hl
     have hgb := growP_bnd hg
     have hbk := hbs k (by omega)
     have hal := appN_len g.2 g.1 (stK ⟨[(valD r : Int)], (0, 0)⟩ ws k).reads
     refine Exec.reg ?_
     have X := (X.a hw).a hst
     refine Run.o1 V15 ?_
     iterate 2 (refine Run.o1 V41 ?_)
     refine Run.nil (Exec.reg ?_)
     refine Run.o1 V41 ?_
     refine Run.c1 (c_grow hwk hg) V41 V41 ?_
     iterate 2 (refine Run.o1 V41 ?_)
     refine Run.nil ?_
     by_cases h0 : (stK ⟨[(valD r : Int)], (0, 0)⟩ ws k).last.1 = 0
     ·skip
      have e0 : ((((stK ⟨[(valD r : Int)], (0, 0)⟩ ws k).last.1 : Nat) : Int) == 0) = true := by rw [h0]; rfl
      refine Exec.reg ?_
      have X := X.a e0
      iterate 4 (refine Run.o1 V41 ?_)
      iterate 5 (refine Run.s ?_)
      refine Run.o1 V41 ?_
      refine Run.c1 (c_need true rfl) V41 V41 ?_
      refine Run.nil (Exec.assocS (Exec.reg ?_))
      iterate 3 (refine Run.o1 V41 ?_)
      refine Run.nil (Exec.blk ?_)
      refine Exec.forA [2, 4, 5, 8, 27, 28, 29, 47, 48] [2, 4, 5, 8, 23] (g.1) (fun j => [.slot 48 (.int j), .obj 4 (.cells [.d (.i (valD h : Nat)), .own 23 0 (appN g.2 j (stK ⟨[(valD r : Int)], (0, 0)⟩ ws k).reads).length (appN g.2 j (stK ⟨[(valD r : Int)], (0, 0)⟩ ws k).reads).length]), .obj 23 (.arr 3 1 ((appN g.2 j (stK ⟨[(valD r : Int)], (0, 0)⟩ ws k).reads).map encInt))]) (fun _ => True) (fun j => by simp only [go_sem] <;> rfl) V35 ?_ (fun j hj Xj => ?_)
      ·trivial
      ·skip
       refine Exec.reg ?_
       refine Run.o1 V41 ?_
       refine Run.nil ?_
       refine Exec.cndS V41 (fun hb49 => ?_) (fun hb49 => ?_)
       ·skip
        have hj : j < g.1 := by have := of_decide_eq_true hb49; omega
        have hRl := appN_len g.2 j (stK ⟨[(valD r : Int)], (0, 0)⟩ ws k).reads
        have hbj := boundP_step hbk ⟨hgb.2.2.1, by omega⟩ j (by omega)
        have hp1 : 1 ≤ (appN g.2 j (stK ⟨[(valD r : Int)], (0, 0)⟩ ws k).reads).length := List.length_pos_iff.2 hbj.1
        have hlg := last_get hbj.1
        have hl16 : decide (((appN g.2 j (stK ⟨[(valD r : Int)], (0, 0)⟩ ws k).reads).length : Int) < 16) = true := decide_eq_true (by omega)
        have h1n : (((appN g.2 j (stK ⟨[(valD r : Int)], (0, 0)⟩ ws k).reads).length : Int) - 1).toNat = (appN g.2 j (stK ⟨[(valD r : Int)], (0, 0)⟩ ws k).reads).length - 1 := by omega
        have hsu := appN_succ g.2 j (stK ⟨[(valD r : Int)], (0, 0)⟩ ws k).reads
        have hb3 := hbj.2.2.1
        have hb4 := hbj.2.2.2
        refine Exec.skipS (Exec.blk (Exec.reg ?_))
        have X := (((X.a hl16).a h1n).a hlg).a hsu
        iterate 4 (refine Run.o1 V41 ?_)
        refine Run.c1 (c_need true rfl) V41 V41 ?_
        refine Run.nil ?_
        refine Exec.opk1 19 ?_
        iterate 7 (refine OpenK.o1 V41 ?_)
        refine OpenK.o1 V26 ?_
        refine OpenK.o1 V15 ?_
        iterate 3 (refine OpenK.o1 V41 ?_)
        refine OpenK.o1 V26 ?_
        refine OpenK.o1 V41 ?_
        refine OpenK.o1 V1 ?_
        iterate 2 (refine OpenK.o1 V41 ?_)
        refine OpenK.nil (OpenE.finT V169 V169 V169 ?_)
        refine BlkK.nrm (Exec.reg1 ?_)
        refine Run.o1 V26 ?_
        refine Run.o1 V41 ?_
        refine Run.nil ?_
        refine ForK.nxt ?_ ?_ ?_
        ·omega
        ·exact Ghost.kp [2, 4, 5, 8, 27, 28, 29, 47, 48] [2, 4, 5, 8, 23] V9
        ·trivial
       ·skip
        have hje : j = g.1 := by have := of_decide_eq_false hb49; omega
        subst hje
        refine Exec.exitS (ForK.ext (BlkK.hit (Exec.reg1 ?_)))
        iterate 2 (refine Run.o1 V41 ?_)
        refine Run.nil (BlkK.nrm (Exec.reg1 ?_))
        refine Run.o1 V26 ?_
        refine Run.o1 V41 ?_
        refine Run.nil ?_
        refine ForK.nxt ?_ ?_ ?_
        ·omega
        ·exact Ghost.kp [2, 4, 5, 27, 28, 29] [2, 4, 5, 23] V36
        ·trivial
     ·skip
      have e0 : ((((stK ⟨[(valD r : Int)], (0, 0)⟩ ws k).last.1 : Nat) : Int) == 0) = false := by simpa using h0
      have e5 : ((stK ⟨[(valD r : Int)], (0, 0)⟩ ws k).last.2 != g.2) = true := by simpa using hnb.resolve_left h0
      refine Exec.reg ?_
      have X := (X.a e0).a e5
      iterate 4 (refine Run.o1 V41 ?_)
      iterate 5 (refine Run.y1 V41 ?_)
      refine Run.o1 V41 ?_
      refine Run.c1 (c_need true rfl) V41 V41 ?_
      refine Run.nil (Exec.assocS (Exec.reg ?_))
      iterate 3 (refine Run.o1 V41 ?_)
      refine Run.nil (Exec.blk ?_)
      refine Exec.forA [2, 4, 5, 8, 27, 28, 29, 47, 48] [2, 4, 5, 8, 23] (g.1) (fun j => [.slot 48 (.int j), .obj 4 (.cells [.d (.i (valD h : Nat)), .own 23 0 (appN g.2 j (stK ⟨[(valD r : Int)], (0, 0)⟩ ws k).reads).length (appN g.2 j (stK ⟨[(valD r : Int)], (0, 0)⟩ ws k).reads).length]), .obj 23 (.arr 3 1 ((appN g.2 j (stK ⟨[(valD r : Int)], (0, 0)⟩ ws k).reads).map encInt))]) (fun _ => True) (fun j => by simp only [go_sem] <;> rfl) V35 ?_ (fun j hj Xj => ?_)
      ·trivial
      ·skip
       refine Exec.reg ?_
       refine Run.o1 V41 ?_
       refine Run.nil ?_
       refine Exec.cndS V41 (fun hb49 => ?_) (fun hb49 => ?_)
       ·skip
        have hj : j < g.1 := by have := of_decide_eq_true hb49; omega
        have hRl := appN_len g.2 j (stK ⟨[(valD r : Int)], (0, 0)⟩ ws k).reads
        have hbj := boundP_step hbk ⟨hgb.2.2.1, by omega⟩ j (by omega)
        have hp1 : 1 ≤ (appN g.2 j (stK ⟨[(valD r : Int)], (0, 0)⟩ ws k).reads).length := List.length_pos_iff.2 hbj.1
        have hlg := last_get hbj.1
        have hl16 : decide (((appN g.2 j (stK ⟨[(valD r : Int)], (0, 0)⟩ ws k).reads).length : Int) < 16) = true := decide_eq_true (by omega)
        have h1n : (((appN g.2 j (stK ⟨[(valD r : Int)], (0, 0)⟩ ws k).reads).length : Int) - 1).toNat = (appN g.2 j (stK ⟨[(valD r : Int)], (0, 0)⟩ ws k).reads).length - 1 := by omega
        have hsu := appN_succ g.2 j (stK ⟨[(valD r : Int)], (0, 0)⟩ ws k).reads
        have hb3 := hbj.2.2.1
        have hb4 := hbj.2.2.2
        refine Exec.skipS (Exec.blk (Exec.reg ?_))
        have X := (((X.a hl16).a h1n).a hlg).a hsu
        iterate 4 (refine Run.o1 V41 ?_)
        refine Run.c1 (c_need true rfl) V41 V41 ?_
        refine Run.nil ?_
        refine Exec.opk1 19 ?_
        iterate 7 (refine OpenK.o1 V41 ?_)
        refine OpenK.o1 V26 ?_
        refine OpenK.o1 V15 ?_
        iterate 3 (refine OpenK.o1 V41 ?_)
        refine OpenK.o1 V26 ?_
        refine OpenK.o1 V41 ?_
        refine OpenK.o1 V1 ?_
        iterate 2 (refine OpenK.o1 V41 ?_)
        refine OpenK.nil (OpenE.finT V169 V169 V169 ?_)
        refine BlkK.nrm (Exec.reg1 ?_)
        refine Run.o1 V26 ?_
        refine Run.o1 V41 ?_
        refine Run.nil ?_
        refine ForK.nxt ?_ ?_ ?_
        ·omega
        ·exact Ghost.kp [2, 4, 5, 8, 27, 28, 29, 47, 48] [2, 4, 5, 8, 23] V9
        ·trivial
       ·skip
        have hje : j = g.1 := by have := of_decide_eq_false hb49; omega
        subst hje
        refine Exec.exitS (ForK.ext (BlkK.hit (Exec.reg1 ?_)))
        iterate 2 (refine Run.o1 V41 ?_)
        refine Run.nil (BlkK.nrm (Exec.reg1 ?_))
        refine Run.o1 V26 ?_
        refine Run.o1 V41 ?_
        refine Run.nil ?_
        refine ForK.nxt ?_ ?_ ?_
        ·omega
        ·exact Ghost.kp [2, 4, 5, 27, 28, 29] [2, 4, 5, 23] V36
        ·trivial
    ·skip
     have hkq2 : k = q := by omega
     subst hkq2
     have hwk : w0.length ≤ 1000000000 := Nat.le_trans (hwl w0 (List.mem_cons_of_mem _ (List.mem_cons_of_mem _ (List.mem_of_getElem? hw0)))) hl
     have hbk := hbs k (by omega)
     refine Exec.reg ?_
     have X := X.a hw0
     refine Run.o1 V15 ?_
     iterate 2 (refine Run.o1 V41 ?_)
     refine Run.nil ?_
     refine Exec.pan (pv := pvE) 1 rfl ?_
     refine Run.o1 V41 ?_
     exact Run.panc (p_grow hwk hg0) V164 V41 V74 rfl
   ·skip
    exact absurd hb30 V168
 ·exact absurd hb18 (by simp)
theorem p_pgW2 (line h r : Bs) (ws : List Bs) (hc : cutB 32 line = h :: r :: ws) (hl : line.length ≤ 1000000000) (fh : figOK h = true) (fr : figOK r = true) (q : Nat) (w0 : Bs) (hw0 : ws[q]? = some w0) (hstep : ∀ k w, k < q → ws[k]? = some w → wordP (stK ⟨[(valD r : Int)], (0, 0)⟩ ws k) w = some (stK ⟨[(valD r : Int)], (0, 0)⟩ ws (k + 1))) (g0 : Nat × Int) (hg0 : growP w0 = some g0) (hn1 : (stK ⟨[(valD r : Int)], (0, 0)⟩ ws q).last.1 ≠ 0) (hn2 : (stK ⟨[(valD r : Int)], (0, 0)⟩ ws q).last.2 = g0.2) : Pan Tryz.prog pvE 54 [.str line] [] := by
 have hqw := (List.getElem?_eq_some_iff.1 hw0).1
 have hwn := cut_cnt 32 line
 rw [hc] at hwn
 simp only [List.length_cons] at hwn
 have hsp := c_Split1 line 32 hl
 rw [hc] at hsp
 have hwl := cut_len 32 line
 rw [hc] at hwl
 have bh := fig_bnd fh
 have br := fig_bnd fr
 have hgt : decide (((ws.length : Int) + 1 + 1) > 1) = true := decide_eq_true (by omega)
 have hgt2 : decide ((((ws.length + 1 + 1 : Nat)) : Int) > 1) = true := decide_eq_true (by omega)
 have htk : (((h :: r :: ws).map encStr)).take (h :: r :: ws).length = (h :: r :: ws).map encStr := List.take_of_length_le (by simp)
 have hbs : ∀ k, k ≤ q → boundP (stK ⟨[(valD r : Int)], (0, 0)⟩ ws k).reads := fun k hk => by
  induction k with
  | zero => rw [stK_zero]; exact ⟨by simp, by simp, by simp [lastD], by simp [lastD]; omega⟩
  | succ k ih =>
   obtain ⟨w, hw⟩ : ∃ w, ws[k]? = some w := ⟨_, List.getElem?_eq_getElem (by omega)⟩
   obtain ⟨g, g1, g2, g3, g4⟩ := wordP_some (hstep k w (by omega) hw)
   rw [g4]
   have := growP_bnd g1
   exact boundP_step (ih (by omega)) ⟨by omega, by omega⟩ g.1 (by omega)
 have h2n : Int.toNat 2 = 2 := rfl
 have htw : List.take ws.length (List.map encStr ws) = List.map encStr ws := List.take_of_length_le (by simp)
 refine pan_of follows_mixed Tryz.func54 rfl V110 V169 rfl ?_
 refine Exec.reg ?_
 have X := (((Fx.mk hgt).a hgt2).a h2n).a htw
 refine Run.o1 V41 ?_
 refine Run.nil (Exec.reg ?_)
 refine Run.o1 V41 ?_
 refine Run.cal (hsp) V164 V41 V32 (fr1 V162) V41 ?_
 refine Run.o1 V41 ?_
 have X := Fx.mk htk
 refine Run.frz 11900 V96 ?_
 refine Run.nil (Exec.reg ?_)
 have X := (((Fx.mk hgt).a hgt2).a h2n).a htw
 refine Run.o1 V41 ?_
 refine Run.o1 V15 ?_
 refine Run.o1 V41 ?_
 refine Run.c1 (c_fig h fh) V41 V41 ?_
 iterate 3 (refine Run.o1 V41 ?_)
 refine Run.nil (Exec.assocS (Exec.reg ?_))
 iterate 3 (refine Run.o1 V41 ?_)
 refine Run.nil ?_
 refine Exec.cndS V41 (fun hb18 => ?_) (fun hb18 => ?_)
 ·skip
  refine Exec.assocS (Exec.reg ?_)
  refine Run.o1 V41 ?_
  refine Run.o1 V15 ?_
  refine Run.o1 V41 ?_
  refine Run.c1 (c_fig r fr) V41 V41 ?_
  iterate 3 (refine Run.o1 V41 ?_)
  refine Run.nil (Exec.assocS (Exec.reg ?_))
  iterate 3 (refine Run.o1 V41 ?_)
  refine Run.nil (Exec.assocS (Exec.reg ?_))
  refine Run.o1 V41 ?_
  refine Run.o1 V15 ?_
  iterate 2 (refine Run.o1 V41 ?_)
  refine Run.nil (Exec.blk ?_)
  refine Exec.forA [2, 4, 5, 27, 28, 29] [2, 4, 5, 23] (q) (fun k => [.slot 29 (.int k), .obj 4 (.cells [.d (.i (valD h : Nat)), .own 23 0 (stK ⟨[(valD r : Int)], (0, 0)⟩ ws k).reads.length (stK ⟨[(valD r : Int)], (0, 0)⟩ ws k).reads.length]), .obj 23 (.arr 3 1 ((stK ⟨[(valD r : Int)], (0, 0)⟩ ws k).reads.map encInt)), .obj 5 (.cells [.d (.i ((stK ⟨[(valD r : Int)], (0, 0)⟩ ws k).last.1 : Nat)), .d (.i (stK ⟨[(valD r : Int)], (0, 0)⟩ ws k).last.2)])]) (fun _ => True) (fun k => by simp only [go_sem] <;> rfl) V28 ?_ (fun k hk hX => ?_)
  ·trivial
  ·skip
   refine Exec.reg ?_
   refine Run.o1 V41 ?_
   refine Run.nil ?_
   refine Exec.cndS V41 (fun hb30 => ?_) (fun hb30 => ?_)
   ·skip
    have hlt : k < ws.length := by omega
    refine Exec.skipS (Exec.blk ?_)
    by_cases hkq : k < q
    ·skip
     obtain ⟨w, hw⟩ : ∃ w, ws[k]? = some w := ⟨_, List.getElem?_eq_getElem (by omega)⟩
     obtain ⟨g, hg, hnb, hlen, hst⟩ := wordP_some (hstep k w hkq hw)
     have hwk : w.length ≤ 1000000000 := Nat.le_trans (hwl w (List.mem_cons_of_mem _ (List.mem_cons_of_mem _ (List.mem_of_getElem? hw)))) hl
     have hgb := growP_bnd hg
     have hbk := hbs k (by omega)
     have hal := appN_len g.2 g.1 (stK ⟨[(valD r : Int)], (0, 0)⟩ ws k).reads
     refine Exec.reg ?_
     have X := (X.a hw).a hst
     refine Run.o1 V15 ?_
     iterate 2 (refine Run.o1 V41 ?_)
     refine Run.nil (Exec.reg ?_)
     refine Run.o1 V41 ?_
     refine Run.c1 (c_grow hwk hg) V41 V41 ?_
     iterate 2 (refine Run.o1 V41 ?_)
     refine Run.nil ?_
     by_cases h0 : (stK ⟨[(valD r : Int)], (0, 0)⟩ ws k).last.1 = 0
     ·skip
      have e0 : ((((stK ⟨[(valD r : Int)], (0, 0)⟩ ws k).last.1 : Nat) : Int) == 0) = true := by rw [h0]; rfl
      refine Exec.reg ?_
      have X := X.a e0
      iterate 4 (refine Run.o1 V41 ?_)
      iterate 5 (refine Run.s ?_)
      refine Run.o1 V41 ?_
      refine Run.c1 (c_need true rfl) V41 V41 ?_
      refine Run.nil (Exec.assocS (Exec.reg ?_))
      iterate 3 (refine Run.o1 V41 ?_)
      refine Run.nil (Exec.blk ?_)
      refine Exec.forA [2, 4, 5, 8, 27, 28, 29, 47, 48] [2, 4, 5, 8, 23] (g.1) (fun j => [.slot 48 (.int j), .obj 4 (.cells [.d (.i (valD h : Nat)), .own 23 0 (appN g.2 j (stK ⟨[(valD r : Int)], (0, 0)⟩ ws k).reads).length (appN g.2 j (stK ⟨[(valD r : Int)], (0, 0)⟩ ws k).reads).length]), .obj 23 (.arr 3 1 ((appN g.2 j (stK ⟨[(valD r : Int)], (0, 0)⟩ ws k).reads).map encInt))]) (fun _ => True) (fun j => by simp only [go_sem] <;> rfl) V35 ?_ (fun j hj Xj => ?_)
      ·trivial
      ·skip
       refine Exec.reg ?_
       refine Run.o1 V41 ?_
       refine Run.nil ?_
       refine Exec.cndS V41 (fun hb49 => ?_) (fun hb49 => ?_)
       ·skip
        have hj : j < g.1 := by have := of_decide_eq_true hb49; omega
        have hRl := appN_len g.2 j (stK ⟨[(valD r : Int)], (0, 0)⟩ ws k).reads
        have hbj := boundP_step hbk ⟨hgb.2.2.1, by omega⟩ j (by omega)
        have hp1 : 1 ≤ (appN g.2 j (stK ⟨[(valD r : Int)], (0, 0)⟩ ws k).reads).length := List.length_pos_iff.2 hbj.1
        have hlg := last_get hbj.1
        have hl16 : decide (((appN g.2 j (stK ⟨[(valD r : Int)], (0, 0)⟩ ws k).reads).length : Int) < 16) = true := decide_eq_true (by omega)
        have h1n : (((appN g.2 j (stK ⟨[(valD r : Int)], (0, 0)⟩ ws k).reads).length : Int) - 1).toNat = (appN g.2 j (stK ⟨[(valD r : Int)], (0, 0)⟩ ws k).reads).length - 1 := by omega
        have hsu := appN_succ g.2 j (stK ⟨[(valD r : Int)], (0, 0)⟩ ws k).reads
        have hb3 := hbj.2.2.1
        have hb4 := hbj.2.2.2
        refine Exec.skipS (Exec.blk (Exec.reg ?_))
        have X := (((X.a hl16).a h1n).a hlg).a hsu
        iterate 4 (refine Run.o1 V41 ?_)
        refine Run.c1 (c_need true rfl) V41 V41 ?_
        refine Run.nil ?_
        refine Exec.opk1 19 ?_
        iterate 7 (refine OpenK.o1 V41 ?_)
        refine OpenK.o1 V26 ?_
        refine OpenK.o1 V15 ?_
        iterate 3 (refine OpenK.o1 V41 ?_)
        refine OpenK.o1 V26 ?_
        refine OpenK.o1 V41 ?_
        refine OpenK.o1 V1 ?_
        iterate 2 (refine OpenK.o1 V41 ?_)
        refine OpenK.nil (OpenE.finT V169 V169 V169 ?_)
        refine BlkK.nrm (Exec.reg1 ?_)
        refine Run.o1 V26 ?_
        refine Run.o1 V41 ?_
        refine Run.nil ?_
        refine ForK.nxt ?_ ?_ ?_
        ·omega
        ·exact Ghost.kp [2, 4, 5, 8, 27, 28, 29, 47, 48] [2, 4, 5, 8, 23] V9
        ·trivial
       ·skip
        have hje : j = g.1 := by have := of_decide_eq_false hb49; omega
        subst hje
        refine Exec.exitS (ForK.ext (BlkK.hit (Exec.reg1 ?_)))
        iterate 2 (refine Run.o1 V41 ?_)
        refine Run.nil (BlkK.nrm (Exec.reg1 ?_))
        refine Run.o1 V26 ?_
        refine Run.o1 V41 ?_
        refine Run.nil ?_
        refine ForK.nxt ?_ ?_ ?_
        ·omega
        ·exact Ghost.kp [2, 4, 5, 27, 28, 29] [2, 4, 5, 23] V36
        ·trivial
     ·skip
      have e0 : ((((stK ⟨[(valD r : Int)], (0, 0)⟩ ws k).last.1 : Nat) : Int) == 0) = false := by simpa using h0
      have e5 : ((stK ⟨[(valD r : Int)], (0, 0)⟩ ws k).last.2 != g.2) = true := by simpa using hnb.resolve_left h0
      refine Exec.reg ?_
      have X := (X.a e0).a e5
      iterate 4 (refine Run.o1 V41 ?_)
      iterate 5 (refine Run.y1 V41 ?_)
      refine Run.o1 V41 ?_
      refine Run.c1 (c_need true rfl) V41 V41 ?_
      refine Run.nil (Exec.assocS (Exec.reg ?_))
      iterate 3 (refine Run.o1 V41 ?_)
      refine Run.nil (Exec.blk ?_)
      refine Exec.forA [2, 4, 5, 8, 27, 28, 29, 47, 48] [2, 4, 5, 8, 23] (g.1) (fun j => [.slot 48 (.int j), .obj 4 (.cells [.d (.i (valD h : Nat)), .own 23 0 (appN g.2 j (stK ⟨[(valD r : Int)], (0, 0)⟩ ws k).reads).length (appN g.2 j (stK ⟨[(valD r : Int)], (0, 0)⟩ ws k).reads).length]), .obj 23 (.arr 3 1 ((appN g.2 j (stK ⟨[(valD r : Int)], (0, 0)⟩ ws k).reads).map encInt))]) (fun _ => True) (fun j => by simp only [go_sem] <;> rfl) V35 ?_ (fun j hj Xj => ?_)
      ·trivial
      ·skip
       refine Exec.reg ?_
       refine Run.o1 V41 ?_
       refine Run.nil ?_
       refine Exec.cndS V41 (fun hb49 => ?_) (fun hb49 => ?_)
       ·skip
        have hj : j < g.1 := by have := of_decide_eq_true hb49; omega
        have hRl := appN_len g.2 j (stK ⟨[(valD r : Int)], (0, 0)⟩ ws k).reads
        have hbj := boundP_step hbk ⟨hgb.2.2.1, by omega⟩ j (by omega)
        have hp1 : 1 ≤ (appN g.2 j (stK ⟨[(valD r : Int)], (0, 0)⟩ ws k).reads).length := List.length_pos_iff.2 hbj.1
        have hlg := last_get hbj.1
        have hl16 : decide (((appN g.2 j (stK ⟨[(valD r : Int)], (0, 0)⟩ ws k).reads).length : Int) < 16) = true := decide_eq_true (by omega)
        have h1n : (((appN g.2 j (stK ⟨[(valD r : Int)], (0, 0)⟩ ws k).reads).length : Int) - 1).toNat = (appN g.2 j (stK ⟨[(valD r : Int)], (0, 0)⟩ ws k).reads).length - 1 := by omega
        have hsu := appN_succ g.2 j (stK ⟨[(valD r : Int)], (0, 0)⟩ ws k).reads
        have hb3 := hbj.2.2.1
        have hb4 := hbj.2.2.2
        refine Exec.skipS (Exec.blk (Exec.reg ?_))
        have X := (((X.a hl16).a h1n).a hlg).a hsu
        iterate 4 (refine Run.o1 V41 ?_)
        refine Run.c1 (c_need true rfl) V41 V41 ?_
        refine Run.nil ?_
        refine Exec.opk1 19 ?_
        iterate 7 (refine OpenK.o1 V41 ?_)
        refine OpenK.o1 V26 ?_
        refine OpenK.o1 V15 ?_
        iterate 3 (refine OpenK.o1 V41 ?_)
        refine OpenK.o1 V26 ?_
        refine OpenK.o1 V41 ?_
        refine OpenK.o1 V1 ?_
        iterate 2 (refine OpenK.o1 V41 ?_)
        refine OpenK.nil (OpenE.finT V169 V169 V169 ?_)
        refine BlkK.nrm (Exec.reg1 ?_)
        refine Run.o1 V26 ?_
        refine Run.o1 V41 ?_
        refine Run.nil ?_
        refine ForK.nxt ?_ ?_ ?_
        ·omega
        ·exact Ghost.kp [2, 4, 5, 8, 27, 28, 29, 47, 48] [2, 4, 5, 8, 23] V9
        ·trivial
       ·skip
        have hje : j = g.1 := by have := of_decide_eq_false hb49; omega
        subst hje
        refine Exec.exitS (ForK.ext (BlkK.hit (Exec.reg1 ?_)))
        iterate 2 (refine Run.o1 V41 ?_)
        refine Run.nil (BlkK.nrm (Exec.reg1 ?_))
        refine Run.o1 V26 ?_
        refine Run.o1 V41 ?_
        refine Run.nil ?_
        refine ForK.nxt ?_ ?_ ?_
        ·omega
        ·exact Ghost.kp [2, 4, 5, 27, 28, 29] [2, 4, 5, 23] V36
        ·trivial
    ·skip
     have hkq2 : k = q := by omega
     subst hkq2
     have hwk : w0.length ≤ 1000000000 := Nat.le_trans (hwl w0 (List.mem_cons_of_mem _ (List.mem_cons_of_mem _ (List.mem_of_getElem? hw0)))) hl
     have hbk := hbs k (by omega)
     have e0 : ((((stK ⟨[(valD r : Int)], (0, 0)⟩ ws k).last.1 : Nat) : Int) == 0) = false := by simpa using hn1
     have e5 : ((stK ⟨[(valD r : Int)], (0, 0)⟩ ws k).last.2 != g0.2) = false := by simpa using hn2
     refine Exec.reg ?_
     have X := ((X.a hw0).a e0).a e5
     refine Run.o1 V15 ?_
     iterate 2 (refine Run.o1 V41 ?_)
     refine Run.nil (Exec.reg ?_)
     refine Run.o1 V41 ?_
     refine Run.c1 (c_grow hwk hg0) V41 V41 ?_
     iterate 2 (refine Run.o1 V41 ?_)
     refine Run.nil ?_
     refine Exec.pan (pv := pvE) 10 rfl ?_
     iterate 4 (refine Run.o1 V41 ?_)
     iterate 5 (refine Run.y1 V41 ?_)
     refine Run.o1 V41 ?_
     exact Run.panc (p_need false rfl) V164 V41 V74 rfl
   ·skip
    exact absurd hb30 V168
 ·exact absurd hb18 (by simp)
theorem p_pgW3 (line h r : Bs) (ws : List Bs) (hc : cutB 32 line = h :: r :: ws) (hl : line.length ≤ 1000000000) (fh : figOK h = true) (fr : figOK r = true) (q : Nat) (w0 : Bs) (hw0 : ws[q]? = some w0) (hstep : ∀ k w, k < q → ws[k]? = some w → wordP (stK ⟨[(valD r : Int)], (0, 0)⟩ ws k) w = some (stK ⟨[(valD r : Int)], (0, 0)⟩ ws (k + 1))) (g0 : Nat × Int) (hg0 : growP w0 = some g0) (hnb0 : (stK ⟨[(valD r : Int)], (0, 0)⟩ ws q).last.1 = 0 ∨ (stK ⟨[(valD r : Int)], (0, 0)⟩ ws q).last.2 ≠ g0.2) (hn3 : 16 < (stK ⟨[(valD r : Int)], (0, 0)⟩ ws q).reads.length + g0.1) : Pan Tryz.prog pvE 54 [.str line] [] := by
 have hqw := (List.getElem?_eq_some_iff.1 hw0).1
 have hwn := cut_cnt 32 line
 rw [hc] at hwn
 simp only [List.length_cons] at hwn
 have hsp := c_Split1 line 32 hl
 rw [hc] at hsp
 have hwl := cut_len 32 line
 rw [hc] at hwl
 have bh := fig_bnd fh
 have br := fig_bnd fr
 have hgt : decide (((ws.length : Int) + 1 + 1) > 1) = true := decide_eq_true (by omega)
 have hgt2 : decide ((((ws.length + 1 + 1 : Nat)) : Int) > 1) = true := decide_eq_true (by omega)
 have htk : (((h :: r :: ws).map encStr)).take (h :: r :: ws).length = (h :: r :: ws).map encStr := List.take_of_length_le (by simp)
 have hbs : ∀ k, k ≤ q → boundP (stK ⟨[(valD r : Int)], (0, 0)⟩ ws k).reads := fun k hk => by
  induction k with
  | zero => rw [stK_zero]; exact ⟨by simp, by simp, by simp [lastD], by simp [lastD]; omega⟩
  | succ k ih =>
   obtain ⟨w, hw⟩ : ∃ w, ws[k]? = some w := ⟨_, List.getElem?_eq_getElem (by omega)⟩
   obtain ⟨g, g1, g2, g3, g4⟩ := wordP_some (hstep k w (by omega) hw)
   rw [g4]
   have := growP_bnd g1
   exact boundP_step (ih (by omega)) ⟨by omega, by omega⟩ g.1 (by omega)
 have h2n : Int.toNat 2 = 2 := rfl
 have htw : List.take ws.length (List.map encStr ws) = List.map encStr ws := List.take_of_length_le (by simp)
 refine pan_of follows_mixed Tryz.func54 rfl V110 V169 rfl ?_
 refine Exec.reg ?_
 have X := (((Fx.mk hgt).a hgt2).a h2n).a htw
 refine Run.o1 V41 ?_
 refine Run.nil (Exec.reg ?_)
 refine Run.o1 V41 ?_
 refine Run.cal (hsp) V164 V41 V32 (fr1 V162) V41 ?_
 refine Run.o1 V41 ?_
 have X := Fx.mk htk
 refine Run.frz 11900 V96 ?_
 refine Run.nil (Exec.reg ?_)
 have X := (((Fx.mk hgt).a hgt2).a h2n).a htw
 refine Run.o1 V41 ?_
 refine Run.o1 V15 ?_
 refine Run.o1 V41 ?_
 refine Run.c1 (c_fig h fh) V41 V41 ?_
 iterate 3 (refine Run.o1 V41 ?_)
 refine Run.nil (Exec.assocS (Exec.reg ?_))
 iterate 3 (refine Run.o1 V41 ?_)
 refine Run.nil ?_
 refine Exec.cndS V41 (fun hb18 => ?_) (fun hb18 => ?_)
 ·skip
  refine Exec.assocS (Exec.reg ?_)
  refine Run.o1 V41 ?_
  refine Run.o1 V15 ?_
  refine Run.o1 V41 ?_
  refine Run.c1 (c_fig r fr) V41 V41 ?_
  iterate 3 (refine Run.o1 V41 ?_)
  refine Run.nil (Exec.assocS (Exec.reg ?_))
  iterate 3 (refine Run.o1 V41 ?_)
  refine Run.nil (Exec.assocS (Exec.reg ?_))
  refine Run.o1 V41 ?_
  refine Run.o1 V15 ?_
  iterate 2 (refine Run.o1 V41 ?_)
  refine Run.nil (Exec.blk ?_)
  refine Exec.forA [2, 4, 5, 27, 28, 29] [2, 4, 5, 23] (q) (fun k => [.slot 29 (.int k), .obj 4 (.cells [.d (.i (valD h : Nat)), .own 23 0 (stK ⟨[(valD r : Int)], (0, 0)⟩ ws k).reads.length (stK ⟨[(valD r : Int)], (0, 0)⟩ ws k).reads.length]), .obj 23 (.arr 3 1 ((stK ⟨[(valD r : Int)], (0, 0)⟩ ws k).reads.map encInt)), .obj 5 (.cells [.d (.i ((stK ⟨[(valD r : Int)], (0, 0)⟩ ws k).last.1 : Nat)), .d (.i (stK ⟨[(valD r : Int)], (0, 0)⟩ ws k).last.2)])]) (fun _ => True) (fun k => by simp only [go_sem] <;> rfl) V28 ?_ (fun k hk hX => ?_)
  ·trivial
  ·skip
   refine Exec.reg ?_
   refine Run.o1 V41 ?_
   refine Run.nil ?_
   refine Exec.cndS V41 (fun hb30 => ?_) (fun hb30 => ?_)
   ·skip
    have hlt : k < ws.length := by omega
    refine Exec.skipS (Exec.blk ?_)
    by_cases hkq : k < q
    ·skip
     obtain ⟨w, hw⟩ : ∃ w, ws[k]? = some w := ⟨_, List.getElem?_eq_getElem (by omega)⟩
     obtain ⟨g, hg, hnb, hlen, hst⟩ := wordP_some (hstep k w hkq hw)
     have hwk : w.length ≤ 1000000000 := Nat.le_trans (hwl w (List.mem_cons_of_mem _ (List.mem_cons_of_mem _ (List.mem_of_getElem? hw)))) hl
     have hgb := growP_bnd hg
     have hbk := hbs k (by omega)
     have hal := appN_len g.2 g.1 (stK ⟨[(valD r : Int)], (0, 0)⟩ ws k).reads
     refine Exec.reg ?_
     have X := (X.a hw).a hst
     refine Run.o1 V15 ?_
     iterate 2 (refine Run.o1 V41 ?_)
     refine Run.nil (Exec.reg ?_)
     refine Run.o1 V41 ?_
     refine Run.c1 (c_grow hwk hg) V41 V41 ?_
     iterate 2 (refine Run.o1 V41 ?_)
     refine Run.nil ?_
     by_cases h0 : (stK ⟨[(valD r : Int)], (0, 0)⟩ ws k).last.1 = 0
     ·skip
      have e0 : ((((stK ⟨[(valD r : Int)], (0, 0)⟩ ws k).last.1 : Nat) : Int) == 0) = true := by rw [h0]; rfl
      refine Exec.reg ?_
      have X := X.a e0
      iterate 4 (refine Run.o1 V41 ?_)
      iterate 5 (refine Run.s ?_)
      refine Run.o1 V41 ?_
      refine Run.c1 (c_need true rfl) V41 V41 ?_
      refine Run.nil (Exec.assocS (Exec.reg ?_))
      iterate 3 (refine Run.o1 V41 ?_)
      refine Run.nil (Exec.blk ?_)
      refine Exec.forA [2, 4, 5, 8, 27, 28, 29, 47, 48] [2, 4, 5, 8, 23] (g.1) (fun j => [.slot 48 (.int j), .obj 4 (.cells [.d (.i (valD h : Nat)), .own 23 0 (appN g.2 j (stK ⟨[(valD r : Int)], (0, 0)⟩ ws k).reads).length (appN g.2 j (stK ⟨[(valD r : Int)], (0, 0)⟩ ws k).reads).length]), .obj 23 (.arr 3 1 ((appN g.2 j (stK ⟨[(valD r : Int)], (0, 0)⟩ ws k).reads).map encInt))]) (fun _ => True) (fun j => by simp only [go_sem] <;> rfl) V35 ?_ (fun j hj Xj => ?_)
      ·trivial
      ·skip
       refine Exec.reg ?_
       refine Run.o1 V41 ?_
       refine Run.nil ?_
       refine Exec.cndS V41 (fun hb49 => ?_) (fun hb49 => ?_)
       ·skip
        have hj : j < g.1 := by have := of_decide_eq_true hb49; omega
        have hRl := appN_len g.2 j (stK ⟨[(valD r : Int)], (0, 0)⟩ ws k).reads
        have hbj := boundP_step hbk ⟨hgb.2.2.1, by omega⟩ j (by omega)
        have hp1 : 1 ≤ (appN g.2 j (stK ⟨[(valD r : Int)], (0, 0)⟩ ws k).reads).length := List.length_pos_iff.2 hbj.1
        have hlg := last_get hbj.1
        have hl16 : decide (((appN g.2 j (stK ⟨[(valD r : Int)], (0, 0)⟩ ws k).reads).length : Int) < 16) = true := decide_eq_true (by omega)
        have h1n : (((appN g.2 j (stK ⟨[(valD r : Int)], (0, 0)⟩ ws k).reads).length : Int) - 1).toNat = (appN g.2 j (stK ⟨[(valD r : Int)], (0, 0)⟩ ws k).reads).length - 1 := by omega
        have hsu := appN_succ g.2 j (stK ⟨[(valD r : Int)], (0, 0)⟩ ws k).reads
        have hb3 := hbj.2.2.1
        have hb4 := hbj.2.2.2
        refine Exec.skipS (Exec.blk (Exec.reg ?_))
        have X := (((X.a hl16).a h1n).a hlg).a hsu
        iterate 4 (refine Run.o1 V41 ?_)
        refine Run.c1 (c_need true rfl) V41 V41 ?_
        refine Run.nil ?_
        refine Exec.opk1 19 ?_
        iterate 7 (refine OpenK.o1 V41 ?_)
        refine OpenK.o1 V26 ?_
        refine OpenK.o1 V15 ?_
        iterate 3 (refine OpenK.o1 V41 ?_)
        refine OpenK.o1 V26 ?_
        refine OpenK.o1 V41 ?_
        refine OpenK.o1 V1 ?_
        iterate 2 (refine OpenK.o1 V41 ?_)
        refine OpenK.nil (OpenE.finT V169 V169 V169 ?_)
        refine BlkK.nrm (Exec.reg1 ?_)
        refine Run.o1 V26 ?_
        refine Run.o1 V41 ?_
        refine Run.nil ?_
        refine ForK.nxt ?_ ?_ ?_
        ·omega
        ·exact Ghost.kp [2, 4, 5, 8, 27, 28, 29, 47, 48] [2, 4, 5, 8, 23] V9
        ·trivial
       ·skip
        have hje : j = g.1 := by have := of_decide_eq_false hb49; omega
        subst hje
        refine Exec.exitS (ForK.ext (BlkK.hit (Exec.reg1 ?_)))
        iterate 2 (refine Run.o1 V41 ?_)
        refine Run.nil (BlkK.nrm (Exec.reg1 ?_))
        refine Run.o1 V26 ?_
        refine Run.o1 V41 ?_
        refine Run.nil ?_
        refine ForK.nxt ?_ ?_ ?_
        ·omega
        ·exact Ghost.kp [2, 4, 5, 27, 28, 29] [2, 4, 5, 23] V36
        ·trivial
     ·skip
      have e0 : ((((stK ⟨[(valD r : Int)], (0, 0)⟩ ws k).last.1 : Nat) : Int) == 0) = false := by simpa using h0
      have e5 : ((stK ⟨[(valD r : Int)], (0, 0)⟩ ws k).last.2 != g.2) = true := by simpa using hnb.resolve_left h0
      refine Exec.reg ?_
      have X := (X.a e0).a e5
      iterate 4 (refine Run.o1 V41 ?_)
      iterate 5 (refine Run.y1 V41 ?_)
      refine Run.o1 V41 ?_
      refine Run.c1 (c_need true rfl) V41 V41 ?_
      refine Run.nil (Exec.assocS (Exec.reg ?_))
      iterate 3 (refine Run.o1 V41 ?_)
      refine Run.nil (Exec.blk ?_)
      refine Exec.forA [2, 4, 5, 8, 27, 28, 29, 47, 48] [2, 4, 5, 8, 23] (g.1) (fun j => [.slot 48 (.int j), .obj 4 (.cells [.d (.i (valD h : Nat)), .own 23 0 (appN g.2 j (stK ⟨[(valD r : Int)], (0, 0)⟩ ws k).reads).length (appN g.2 j (stK ⟨[(valD r : Int)], (0, 0)⟩ ws k).reads).length]), .obj 23 (.arr 3 1 ((appN g.2 j (stK ⟨[(valD r : Int)], (0, 0)⟩ ws k).reads).map encInt))]) (fun _ => True) (fun j => by simp only [go_sem] <;> rfl) V35 ?_ (fun j hj Xj => ?_)
      ·trivial
      ·skip
       refine Exec.reg ?_
       refine Run.o1 V41 ?_
       refine Run.nil ?_
       refine Exec.cndS V41 (fun hb49 => ?_) (fun hb49 => ?_)
       ·skip
        have hj : j < g.1 := by have := of_decide_eq_true hb49; omega
        have hRl := appN_len g.2 j (stK ⟨[(valD r : Int)], (0, 0)⟩ ws k).reads
        have hbj := boundP_step hbk ⟨hgb.2.2.1, by omega⟩ j (by omega)
        have hp1 : 1 ≤ (appN g.2 j (stK ⟨[(valD r : Int)], (0, 0)⟩ ws k).reads).length := List.length_pos_iff.2 hbj.1
        have hlg := last_get hbj.1
        have hl16 : decide (((appN g.2 j (stK ⟨[(valD r : Int)], (0, 0)⟩ ws k).reads).length : Int) < 16) = true := decide_eq_true (by omega)
        have h1n : (((appN g.2 j (stK ⟨[(valD r : Int)], (0, 0)⟩ ws k).reads).length : Int) - 1).toNat = (appN g.2 j (stK ⟨[(valD r : Int)], (0, 0)⟩ ws k).reads).length - 1 := by omega
        have hsu := appN_succ g.2 j (stK ⟨[(valD r : Int)], (0, 0)⟩ ws k).reads
        have hb3 := hbj.2.2.1
        have hb4 := hbj.2.2.2
        refine Exec.skipS (Exec.blk (Exec.reg ?_))
        have X := (((X.a hl16).a h1n).a hlg).a hsu
        iterate 4 (refine Run.o1 V41 ?_)
        refine Run.c1 (c_need true rfl) V41 V41 ?_
        refine Run.nil ?_
        refine Exec.opk1 19 ?_
        iterate 7 (refine OpenK.o1 V41 ?_)
        refine OpenK.o1 V26 ?_
        refine OpenK.o1 V15 ?_
        iterate 3 (refine OpenK.o1 V41 ?_)
        refine OpenK.o1 V26 ?_
        refine OpenK.o1 V41 ?_
        refine OpenK.o1 V1 ?_
        iterate 2 (refine OpenK.o1 V41 ?_)
        refine OpenK.nil (OpenE.finT V169 V169 V169 ?_)
        refine BlkK.nrm (Exec.reg1 ?_)
        refine Run.o1 V26 ?_
        refine Run.o1 V41 ?_
        refine Run.nil ?_
        refine ForK.nxt ?_ ?_ ?_
        ·omega
        ·exact Ghost.kp [2, 4, 5, 8, 27, 28, 29, 47, 48] [2, 4, 5, 8, 23] V9
        ·trivial
       ·skip
        have hje : j = g.1 := by have := of_decide_eq_false hb49; omega
        subst hje
        refine Exec.exitS (ForK.ext (BlkK.hit (Exec.reg1 ?_)))
        iterate 2 (refine Run.o1 V41 ?_)
        refine Run.nil (BlkK.nrm (Exec.reg1 ?_))
        refine Run.o1 V26 ?_
        refine Run.o1 V41 ?_
        refine Run.nil ?_
        refine ForK.nxt ?_ ?_ ?_
        ·omega
        ·exact Ghost.kp [2, 4, 5, 27, 28, 29] [2, 4, 5, 23] V36
        ·trivial
    ·skip
     have hkq2 : k = q := by omega
     subst hkq2
     have hwk : w0.length ≤ 1000000000 := Nat.le_trans (hwl w0 (List.mem_cons_of_mem _ (List.mem_cons_of_mem _ (List.mem_of_getElem? hw0)))) hl
     have hbk := hbs k (by omega)
     refine Exec.reg ?_
     have X := X.a hw0
     refine Run.o1 V15 ?_
     iterate 2 (refine Run.o1 V41 ?_)
     refine Run.nil (Exec.reg ?_)
     refine Run.o1 V41 ?_
     refine Run.c1 (c_grow hwk hg0) V41 V41 ?_
     iterate 2 (refine Run.o1 V41 ?_)
     refine Run.nil ?_
     by_cases h0 : (stK ⟨[(valD r : Int)], (0, 0)⟩ ws k).last.1 = 0
     ·skip
      have e0 : ((((stK ⟨[(valD r : Int)], (0, 0)⟩ ws k).last.1 : Nat) : Int) == 0) = true := by rw [h0]; rfl
      refine Exec.reg ?_
      have X := X.a e0
      iterate 4 (refine Run.o1 V41 ?_)
      iterate 5 (refine Run.s ?_)
      refine Run.o1 V41 ?_
      refine Run.c1 (c_need true rfl) V41 V41 ?_
      refine Run.nil (Exec.assocS (Exec.reg ?_))
      iterate 3 (refine Run.o1 V41 ?_)
      refine Run.nil (Exec.blk ?_)
      refine Exec.forA [2, 4, 5, 8, 27, 28, 29, 47, 48] [2, 4, 5, 8, 23] ((16 - (stK ⟨[(valD r : Int)], (0, 0)⟩ ws k).reads.length)) (fun j => [.slot 48 (.int j), .obj 4 (.cells [.d (.i (valD h : Nat)), .own 23 0 (appN g0.2 j (stK ⟨[(valD r : Int)], (0, 0)⟩ ws k).reads).length (appN g0.2 j (stK ⟨[(valD r : Int)], (0, 0)⟩ ws k).reads).length]), .obj 23 (.arr 3 1 ((appN g0.2 j (stK ⟨[(valD r : Int)], (0, 0)⟩ ws k).reads).map encInt))]) (fun _ => True) (fun j => by simp only [go_sem] <;> rfl) V35 ?_ (fun j hj Xj => ?_)
      ·trivial
      ·skip
       refine Exec.reg ?_
       refine Run.o1 V41 ?_
       refine Run.nil ?_
       refine Exec.cndS V41 (fun hb49 => ?_) (fun hb49 => ?_)
       ·skip
        have hgb0 := growP_bnd hg0
        have hal0 := appN_len g0.2 j (stK ⟨[(valD r : Int)], (0, 0)⟩ ws k).reads
        refine Exec.skipS (Exec.blk ?_)
        by_cases hju : j < 16 - (stK ⟨[(valD r : Int)], (0, 0)⟩ ws k).reads.length
        ·skip
         have hRl := appN_len g0.2 j (stK ⟨[(valD r : Int)], (0, 0)⟩ ws k).reads
         have hbj := boundP_step hbk ⟨hgb0.2.2.1, by omega⟩ j (by omega)
         have hp1 : 1 ≤ (appN g0.2 j (stK ⟨[(valD r : Int)], (0, 0)⟩ ws k).reads).length := List.length_pos_iff.2 hbj.1
         have hlg := last_get hbj.1
         have hl16 : decide (((appN g0.2 j (stK ⟨[(valD r : Int)], (0, 0)⟩ ws k).reads).length : Int) < 16) = true := decide_eq_true (by omega)
         have h1n : (((appN g0.2 j (stK ⟨[(valD r : Int)], (0, 0)⟩ ws k).reads).length : Int) - 1).toNat = (appN g0.2 j (stK ⟨[(valD r : Int)], (0, 0)⟩ ws k).reads).length - 1 := by omega
         have hsu := appN_succ g0.2 j (stK ⟨[(valD r : Int)], (0, 0)⟩ ws k).reads
         have hb3 := hbj.2.2.1
         have hb4 := hbj.2.2.2
         refine Exec.reg ?_
         have X := (((X.a hl16).a h1n).a hlg).a hsu
         iterate 4 (refine Run.o1 V41 ?_)
         refine Run.c1 (c_need true rfl) V41 V41 ?_
         refine Run.nil ?_
         refine Exec.opk1 19 ?_
         iterate 7 (refine OpenK.o1 V41 ?_)
         refine OpenK.o1 V26 ?_
         refine OpenK.o1 V15 ?_
         iterate 3 (refine OpenK.o1 V41 ?_)
         refine OpenK.o1 V26 ?_
         refine OpenK.o1 V41 ?_
         refine OpenK.o1 V1 ?_
         iterate 2 (refine OpenK.o1 V41 ?_)
         refine OpenK.nil (OpenE.finT V169 V169 V169 ?_)
         refine BlkK.nrm (Exec.reg1 ?_)
         refine Run.o1 V26 ?_
         refine Run.o1 V41 ?_
         refine Run.nil ?_
         refine ForK.nxt ?_ ?_ ?_
         ·omega
         ·exact Ghost.kp [2, 4, 5, 8, 27, 28, 29, 47, 48] [2, 4, 5, 8, 23] V9
         ·trivial
        ·skip
         have hl16 : decide (((appN g0.2 j (stK ⟨[(valD r : Int)], (0, 0)⟩ ws k).reads).length : Int) < 16) = false := decide_eq_false (by have := hbk.2.1; omega)
         refine Exec.pan (pv := pvE) 4 rfl ?_
         have X := X.a hl16
         iterate 4 (refine Run.o1 V41 ?_)
         exact Run.panc (p_need false rfl) V164 V41 V74 rfl
       ·skip
        exact absurd (of_decide_eq_false hb49) (by have := hbk.2.1; omega)
     ·skip
      have e0 : ((((stK ⟨[(valD r : Int)], (0, 0)⟩ ws k).last.1 : Nat) : Int) == 0) = false := by simpa using h0
      have e5 : ((stK ⟨[(valD r : Int)], (0, 0)⟩ ws k).last.2 != g0.2) = true := by simpa using hnb0.resolve_left h0
      refine Exec.reg ?_
      have X := (X.a e0).a e5
      iterate 4 (refine Run.o1 V41 ?_)
      iterate 5 (refine Run.y1 V41 ?_)
      refine Run.o1 V41 ?_
      refine Run.c1 (c_need true rfl) V41 V41 ?_
      refine Run.nil (Exec.assocS (Exec.reg ?_))
      iterate 3 (refine Run.o1 V41 ?_)
      refine Run.nil (Exec.blk ?_)
      refine Exec.forA [2, 4, 5, 8, 27, 28, 29, 47, 48] [2, 4, 5, 8, 23] ((16 - (stK ⟨[(valD r : Int)], (0, 0)⟩ ws k).reads.length)) (fun j => [.slot 48 (.int j), .obj 4 (.cells [.d (.i (valD h : Nat)), .own 23 0 (appN g0.2 j (stK ⟨[(valD r : Int)], (0, 0)⟩ ws k).reads).length (appN g0.2 j (stK ⟨[(valD r : Int)], (0, 0)⟩ ws k).reads).length]), .obj 23 (.arr 3 1 ((appN g0.2 j (stK ⟨[(valD r : Int)], (0, 0)⟩ ws k).reads).map encInt))]) (fun _ => True) (fun j => by simp only [go_sem] <;> rfl) V35 ?_ (fun j hj Xj => ?_)
      ·trivial
      ·skip
       refine Exec.reg ?_
       refine Run.o1 V41 ?_
       refine Run.nil ?_
       refine Exec.cndS V41 (fun hb49 => ?_) (fun hb49 => ?_)
       ·skip
        have hgb0 := growP_bnd hg0
        have hal0 := appN_len g0.2 j (stK ⟨[(valD r : Int)], (0, 0)⟩ ws k).reads
        refine Exec.skipS (Exec.blk ?_)
        by_cases hju : j < 16 - (stK ⟨[(valD r : Int)], (0, 0)⟩ ws k).reads.length
        ·skip
         have hRl := appN_len g0.2 j (stK ⟨[(valD r : Int)], (0, 0)⟩ ws k).reads
         have hbj := boundP_step hbk ⟨hgb0.2.2.1, by omega⟩ j (by omega)
         have hp1 : 1 ≤ (appN g0.2 j (stK ⟨[(valD r : Int)], (0, 0)⟩ ws k).reads).length := List.length_pos_iff.2 hbj.1
         have hlg := last_get hbj.1
         have hl16 : decide (((appN g0.2 j (stK ⟨[(valD r : Int)], (0, 0)⟩ ws k).reads).length : Int) < 16) = true := decide_eq_true (by omega)
         have h1n : (((appN g0.2 j (stK ⟨[(valD r : Int)], (0, 0)⟩ ws k).reads).length : Int) - 1).toNat = (appN g0.2 j (stK ⟨[(valD r : Int)], (0, 0)⟩ ws k).reads).length - 1 := by omega
         have hsu := appN_succ g0.2 j (stK ⟨[(valD r : Int)], (0, 0)⟩ ws k).reads
         have hb3 := hbj.2.2.1
         have hb4 := hbj.2.2.2
         refine Exec.reg ?_
         have X := (((X.a hl16).a h1n).a hlg).a hsu
         iterate 4 (refine Run.o1 V41 ?_)
         refine Run.c1 (c_need true rfl) V41 V41 ?_
         refine Run.nil ?_
         refine Exec.opk1 19 ?_
         iterate 7 (refine OpenK.o1 V41 ?_)
         refine OpenK.o1 V26 ?_
         refine OpenK.o1 V15 ?_
         iterate 3 (refine OpenK.o1 V41 ?_)
         refine OpenK.o1 V26 ?_
         refine OpenK.o1 V41 ?_
         refine OpenK.o1 V1 ?_
         iterate 2 (refine OpenK.o1 V41 ?_)
         refine OpenK.nil (OpenE.finT V169 V169 V169 ?_)
         refine BlkK.nrm (Exec.reg1 ?_)
         refine Run.o1 V26 ?_
         refine Run.o1 V41 ?_
         refine Run.nil ?_
         refine ForK.nxt ?_ ?_ ?_
         ·omega
         ·exact Ghost.kp [2, 4, 5, 8, 27, 28, 29, 47, 48] [2, 4, 5, 8, 23] V9
         ·trivial
        ·skip
         have hl16 : decide (((appN g0.2 j (stK ⟨[(valD r : Int)], (0, 0)⟩ ws k).reads).length : Int) < 16) = false := decide_eq_false (by have := hbk.2.1; omega)
         refine Exec.pan (pv := pvE) 4 rfl ?_
         have X := X.a hl16
         iterate 4 (refine Run.o1 V41 ?_)
         exact Run.panc (p_need false rfl) V164 V41 V74 rfl
       ·skip
        exact absurd (of_decide_eq_false hb49) (by have := hbk.2.1; omega)
   ·skip
    exact absurd hb30 V168
 ·exact absurd hb18 (by simp)
end Go.Mw
namespace Go.Mw
open Go.Proofs Go.Bk
theorem stK_none : ∀ (ws : List Bs) (s : St), ws.foldlM wordP s = none → ∃ q w0, ws[q]? = some w0 ∧ (∀ k w, k < q → ws[k]? = some w → wordP (stK s ws k) w = some (stK s ws (k + 1))) ∧ wordP (stK s ws q) w0 = none
 | [], s, h => by cases h
 | w :: ws, s, h => by
  rw [List.foldlM_cons] at h
  cases h1 : wordP s w with
  | none => exact ⟨0, w, rfl, fun k _ hk => absurd hk (by omega), by rw [stK_zero]; exact h1⟩
  | some t =>
   rw [h1] at h
   obtain ⟨q, w0, g1, g2, g3⟩ := stK_none ws t h
   refine ⟨q + 1, w0, by simpa using g1, fun k v hk hv => ?_, by rw [stK_cons h1]; exact g3⟩
   cases k with
   | zero =>
    have : w = v := by simpa using hv
    subst this
    rw [stK_zero, stK_cons h1, stK_zero]; exact h1
   | succ k => rw [stK_cons h1, stK_cons h1]; exact g2 k v (by omega) (by simpa using hv)
theorem c_page {line : Bs} {pg : Pg} (hl : line.length ≤ 1000000000) (h : pageP line = some pg) : Contract Tryz.prog 54 [.str line] (pgV pg) [] := by
 unfold pageP at h
 split at h
 ·cases h
 ·next x hc =>
  split at h
  ·next hf => cases h; exact c_pgA line x hc hl hf
  ·cases h
 ·next x r ws hc =>
  split at h
  ·next hf =>
   obtain ⟨sf, h1, h2⟩ := Option.map_eq_some_iff.1 h
   cases h2
   exact c_pgB line x r ws hc hl hf.1 hf.2 sf h1
  ·cases h
theorem p_page {line : Bs} (hl : line.length ≤ 1000000000) (h : pageP line = none) : Pan Tryz.prog pvE 54 [.str line] [] := by
 unfold pageP at h
 have hcl := cut_len 32 line
 split at h
 ·next hc => exact absurd hc (cutB_ne 32 line)
 ·next x hc =>
  have hx := hcl x (by rw [hc]; simp)
  cases hf : figOK x with
  | true => rw [hf, if_pos rfl] at h; cases h
  | false => exact p_pgH line x [] hc hl hf (by omega)
 ·next x r ws hc =>
  have hx := hcl x (by rw [hc]; simp)
  have hr := hcl r (by rw [hc]; simp)
  cases hf : figOK x with
  | false => exact p_pgH line x (r :: ws) hc hl hf (by omega)
  | true =>
   cases hg : figOK r with
   | false => exact p_pgR line x r ws hc hl hf hg (by omega)
   | true =>
    rw [hf, hg, if_pos ⟨rfl, rfl⟩, Option.map_eq_none_iff] at h
    obtain ⟨q, w0, g1, g2, g3⟩ := stK_none ws _ h
    unfold wordP at g3
    cases hw : growP w0 with
    | none => exact p_pgW1 line x r ws hc hl hf hg q w0 g1 g2 hw
    | some g0 =>
     rw [hw] at g3
     simp only [Option.bind_some] at g3
     split at g3
     ·cases g3
     ·next hn =>
      by_cases hb : (stK ⟨[(valD r : Int)], (0, 0)⟩ ws q).last.1 = 0 ∨ (stK ⟨[(valD r : Int)], (0, 0)⟩ ws q).last.2 ≠ g0.2
      ·exact p_pgW3 line x r ws hc hl hf hg q w0 g1 g2 g0 hw hb (by
        have : ¬ (stK ⟨[(valD r : Int)], (0, 0)⟩ ws q).reads.length + g0.1 ≤ 16 := fun h => hn ⟨hb, h⟩
        omega)
      ·exact p_pgW2 line x r ws hc hl hf hg q w0 g1 g2 g0 hw (fun e => hb (.inl e)) (Decidable.byContradiction fun e => hb (.inr e))
end Go.Mw
namespace Go.Mw
open Go.Proofs
open Go.Bk
attribute [local go_sem] decide_true beq_self_eq_true bne_self_eq_false
theorem c_longOf_Sh (l : List Sh) (most : Nat) (h : most < l.length) (hl : l.length ≤ 1000000000000) : Contract Tryz.prog 128 [.leaf (.d (shsD l)), .int most, .leaf (.d (.fn 129 [])), .leaf (.d (.fn 130 []))] (.int 3) [] := by
 refine con_of follows_mixed Tryz.func128 rfl (by simp only [List.length_cons, List.length_nil, Tryz.ntmps128]; omega) V169 rfl ?_
 refine Exec.reg ?_
 iterate 2 (refine Run.o1 V152 ?_)
 refine Run.nil (Exec.blk (Exec.reg ?_))
 iterate 5 (refine Run.o1 V152 ?_)
 refine Run.nil ?_
 refine Exec.cnd V152 (fun hb10 => ?_) (fun hb10 => ?_)
 ·skip
  refine Exec.reg ?_
  refine Run.o1 V152 ?_
  refine Run.nil (BlkK.ret ?_)
  exact Ends.fin [] (rs := [.tmp 8]) rfl V152 (by simp only [go_sem, gt_iff_lt] <;> first | rfl | exact eqz)
 ·skip
  exact absurd (of_decide_eq_false hb10) (by omega)
theorem c_long_sheets (l : List Sh) (h : 12 < l.length) (hl : l.length ≤ 1000000000000) : Contract Tryz.prog 80 [.leaf (.d (shsD l))] (.int 3) [] := by
 refine con_of follows_mixed Tryz.func80 rfl (by simp only [List.length_cons, List.length_nil, Tryz.ntmps80]; omega) V169 rfl ?_
 refine Exec.reg ?_
 refine Run.o ?_
 refine Run.nil (Exec.reg ?_)
 refine Run.o ?_
 refine Run.c1 (c_longOf_Sh l 12 h hl) V162 V162 ?_
 refine Run.o ?_
 refine Run.nil ?_
 exact Ends.fin [] (rs := [.tmp 2]) rfl V162 V137
theorem c_longOf_Pg (l : List Pg) (most : Nat) (h : most < l.length) (hl : l.length ≤ 1000000000000) : Contract Tryz.prog 99 [.leaf (.d (pgsD l)), .int most, .leaf (.d (.fn 100 [])), .leaf (.d (.fn 101 []))] (.int 3) [] := by
 refine con_of follows_mixed Tryz.func99 rfl (by simp only [List.length_cons, List.length_nil, Tryz.ntmps99]; omega) V169 rfl ?_
 refine Exec.reg ?_
 iterate 2 (refine Run.o1 V152 ?_)
 refine Run.nil (Exec.blk (Exec.reg ?_))
 iterate 5 (refine Run.o1 V152 ?_)
 refine Run.nil ?_
 refine Exec.cnd V152 (fun hb10 => ?_) (fun hb10 => ?_)
 ·skip
  refine Exec.reg ?_
  refine Run.o1 V152 ?_
  refine Run.nil (BlkK.ret ?_)
  exact Ends.fin [] (rs := [.tmp 8]) rfl V152 (by simp only [go_sem, gt_iff_lt] <;> first | rfl | exact eqz)
 ·skip
  exact absurd (of_decide_eq_false hb10) (by omega)
theorem c_long_pages (l : List Pg) (h : 32 < l.length) (hl : l.length ≤ 1000000000000) : Contract Tryz.prog 45 [.leaf (.d (pgsD l))] (.int 3) [] := by
 refine con_of follows_mixed Tryz.func45 rfl (by simp only [List.length_cons, List.length_nil, Tryz.ntmps45]; omega) V169 rfl ?_
 refine Exec.reg ?_
 refine Run.o ?_
 refine Run.nil (Exec.reg ?_)
 refine Run.o ?_
 refine Run.c1 (c_longOf_Pg l 32 h hl) V162 V162 ?_
 refine Run.o ?_
 refine Run.nil ?_
 exact Ends.fin [] (rs := [.tmp 2]) rfl V162 V137
end Go.Mw
namespace Go.Mw
open Go.Proofs
open Go.Bk
attribute [local go_sem] decide_true beq_self_eq_true bne_self_eq_false
theorem c_pagesErrorX (l : List Pg) (hl : l.length ≤ 1000000000000) (hz : ∀ x ∈ l, x.reads.length ≤ 1000) : Contract Tryz.prog 45 [.leaf (.d (pgsD l))] (.int (pagesE l)) [] := by
 by_cases h : 32 < l.length
 ·have e : pagesE l = 3 := err3 _ _ h
  rw [e]; exact c_long_pages l h hl
 ·exact c_pagesError l (by omega) hz
theorem lines_bnd {s : Bs} {ls : List Bs} (h : linesP s = some ls) : ls.length ≤ s.length + 1 ∧ ∀ w ∈ ls, w.length ≤ s.length := by
 unfold linesP at h
 split at h
 ·cases h; simp
 ·split at h
  ·cases h
   have h1 := cut_cnt 10 s.dropLast
   rw [List.length_dropLast] at h1
   refine ⟨by omega, fun w hw => ?_⟩
   have := cut_len 10 s.dropLast w hw
   rw [List.length_dropLast] at this; omega
  ·cases h
theorem c_rdG (text : Bs) (ls : List Bs) (l : List Pg) (hl : text.length ≤ 1000000000) (h : linesP text = some ls) (hm : ls.mapM pageP = some l) (hpe : pagesE l = 0) : Con Tryz.prog 52 [.leaf (.d (.pt [.raw (.string (bs text))]))] [] (.ret (.leaf (.d (pgsD l))) []) := by
 obtain ⟨hb1, hb2⟩ := lines_bnd h
 obtain ⟨m1, m2⟩ := mapM_at ls l hm
 have hz : ∀ x ∈ l, x.reads.length ≤ 1000 := fun x hx => by
  obtain ⟨i, hi⟩ := List.mem_iff_getElem?.1 hx
  obtain ⟨line, hline⟩ : ∃ line, ls[i]? = some line := ⟨_, List.getElem?_eq_getElem (by have := (List.getElem?_eq_some_iff.1 hi).1; omega)⟩
  obtain ⟨pg, e1, e2⟩ := m2 i line hline
  rw [hi] at e2; cases e2
  have := pageP_len e1; omega
 have h00 : ((0 : Int) == 0) = true := rfl
 refine con_of follows_mixed Tryz.func52 rfl V111 V169 rfl ?_
 refine Exec.reg ?_
 refine Run.o ?_
 refine Run.nil (Exec.assocS (Exec.reg ?_))
 refine Run.o ?_
 refine Run.c1 (c_lines hl h) V162 V162 ?_
 refine Run.o ?_
 refine Run.nilo 1 1000 31 2 V162 V162 (by omega) (by omega) V162 ?_
 refine Run.o ?_
 refine Run.nil (Exec.blk ?_)
 refine Exec.forA [1, 5, 6, 7] [1000] (ls.length) (fun k => [.slot 7 (.int k), .slot 1 (.leaf (.own 1000 0 k k)), .obj 1000 (.arr 31 2 ((l.take k).map encPg))]) (fun _ => True) (fun k => by simp only [go_sem] <;> rfl) V99 ?_ (fun k hk hX => ?_)
 ·trivial
 ·skip
  refine Exec.reg ?_
  refine Run.o ?_
  refine Run.nil ?_
  refine Exec.cndS V162 (fun hb8 => ?_) (fun hb8 => ?_)
  ·skip
   have hlt : k < ls.length := by simpa using hb8
   obtain ⟨line, hx⟩ : ∃ line, ls[k]? = some line := ⟨_, List.getElem?_eq_getElem hlt⟩
   obtain ⟨pg, hpg, hpk⟩ := m2 k line hx
   have hwl : line.length ≤ 1000000000 := Nat.le_trans (hb2 line (List.mem_of_getElem? hx)) hl
   have htl : (l.take k).length = k := by rw [List.length_take]; omega
   have hts := take_snoc hpk
   refine Exec.skipS (Exec.blk (Exec.reg ?_))
   have X := (Fx.mk hx).a htl
   refine Run.o1 V88 ?_
   iterate 2 (refine Run.o1 V158 ?_)
   refine Run.nil (Exec.reg1 ?_)
   iterate 2 (refine Run.o1 V158 ?_)
   refine Run.c1 (c_page hwl hpg) V158 V158 ?_
   refine Run.o1 V158 ?_
   refine Run.o1 V7 ?_
   refine Run.o1 V158 ?_
   refine Run.nil (BlkK.nrm (Exec.reg1 ?_))
   refine Run.o1 V67 ?_
   refine Run.o1 V158 ?_
   refine Run.nil ?_
   refine ForK.nxt ?_ ?_ ?_
   ·omega
   ·exact Ghost.kp [1, 5, 6, 7] [1000] V19
   ·trivial
  ·skip
   have hke : ls.length ≤ k := by simpa using hb8
   have hke2 : k = l.length := by omega
   subst hke2
   have htk : l.take l.length = l := List.take_length
   have hta : List.take l.length (List.map encPg l) = List.map encPg l := List.take_of_length_le (by simp)
   refine Exec.exitS (ForK.ext (BlkK.hit (Exec.reg ?_)))
   have X := (Fx.mk htk).a hta
   refine Run.frz 1000 V158 ?_
   have X := (X.a hpe).a h00
   refine Run.o1 V158 ?_
   refine Run.c1 (c_pagesErrorX l (by omega) hz) V158 V158 ?_
   refine Run.o1 V158 ?_
   refine Run.c1 (c_need true rfl) V158 V158 ?_
   refine Run.nil (Exec.reg ?_)
   iterate 2 (refine Run.o1 V158 ?_)
   refine Run.nil ?_
   exact Ends.fin [] (rs := [.tmp 1]) rfl V158 V129
theorem p_rdG0 (text : Bs) (hl : text.length ≤ 1000000000) (h : linesP text = none) : Pan Tryz.prog pvE 52 [.leaf (.d (.pt [.raw (.string (bs text))]))] [] := by
 refine pan_of follows_mixed Tryz.func52 rfl V111 V169 rfl ?_
 refine Exec.reg ?_
 refine Run.o ?_
 refine Run.nil (Exec.assocS ?_)
 refine Exec.pan (pv := pvE) 1 rfl ?_
 refine Run.o ?_
 exact Run.panc (p_lines hl h) V164 V162 V74 rfl
theorem p_rdG2 (text : Bs) (ls : List Bs) (l : List Pg) (hl : text.length ≤ 1000000000) (h : linesP text = some ls) (hm : ls.mapM pageP = some l) (hpe : pagesE l ≠ 0) : Pan Tryz.prog pvE 52 [.leaf (.d (.pt [.raw (.string (bs text))]))] [] := by
 obtain ⟨hb1, hb2⟩ := lines_bnd h
 obtain ⟨m1, m2⟩ := mapM_at ls l hm
 have hz : ∀ x ∈ l, x.reads.length ≤ 1000 := fun x hx => by
  obtain ⟨i, hi⟩ := List.mem_iff_getElem?.1 hx
  obtain ⟨line, hline⟩ : ∃ line, ls[i]? = some line := ⟨_, List.getElem?_eq_getElem (by have := (List.getElem?_eq_some_iff.1 hi).1; omega)⟩
  obtain ⟨pg, e1, e2⟩ := m2 i line hline
  rw [hi] at e2; cases e2
  have := pageP_len e1; omega
 have h00 : (pagesE l == 0) = false := by simpa using hpe
 refine pan_of follows_mixed Tryz.func52 rfl V111 V169 rfl ?_
 refine Exec.reg ?_
 refine Run.o ?_
 refine Run.nil (Exec.assocS (Exec.reg ?_))
 refine Run.o ?_
 refine Run.c1 (c_lines hl h) V162 V162 ?_
 refine Run.o ?_
 refine Run.nilo 1 1000 31 2 V162 V162 (by omega) (by omega) V162 ?_
 refine Run.o ?_
 refine Run.nil (Exec.blk ?_)
 refine Exec.forA [1, 5, 6, 7] [1000] (ls.length) (fun k => [.slot 7 (.int k), .slot 1 (.leaf (.own 1000 0 k k)), .obj 1000 (.arr 31 2 ((l.take k).map encPg))]) (fun _ => True) (fun k => by simp only [go_sem] <;> rfl) V99 ?_ (fun k hk hX => ?_)
 ·trivial
 ·skip
  refine Exec.reg ?_
  refine Run.o ?_
  refine Run.nil ?_
  refine Exec.cndS V162 (fun hb8 => ?_) (fun hb8 => ?_)
  ·skip
   have hlt : k < ls.length := by simpa using hb8
   obtain ⟨line, hx⟩ : ∃ line, ls[k]? = some line := ⟨_, List.getElem?_eq_getElem hlt⟩
   obtain ⟨pg, hpg, hpk⟩ := m2 k line hx
   have hwl : line.length ≤ 1000000000 := Nat.le_trans (hb2 line (List.mem_of_getElem? hx)) hl
   have htl : (l.take k).length = k := by rw [List.length_take]; omega
   have hts := take_snoc hpk
   refine Exec.skipS (Exec.blk (Exec.reg ?_))
   have X := (Fx.mk hx).a htl
   refine Run.o1 V88 ?_
   iterate 2 (refine Run.o1 V158 ?_)
   refine Run.nil (Exec.reg1 ?_)
   iterate 2 (refine Run.o1 V158 ?_)
   refine Run.c1 (c_page hwl hpg) V158 V158 ?_
   refine Run.o1 V158 ?_
   refine Run.o1 V7 ?_
   refine Run.o1 V158 ?_
   refine Run.nil (BlkK.nrm (Exec.reg1 ?_))
   refine Run.o1 V67 ?_
   refine Run.o1 V158 ?_
   refine Run.nil ?_
   refine ForK.nxt ?_ ?_ ?_
   ·omega
   ·exact Ghost.kp [1, 5, 6, 7] [1000] V19
   ·trivial
  ·skip
   have hke : ls.length ≤ k := by simpa using hb8
   have hke2 : k = l.length := by omega
   subst hke2
   have htk : l.take l.length = l := List.take_length
   have hta : List.take l.length (List.map encPg l) = List.map encPg l := List.take_of_length_le (by simp)
   refine Exec.exitS (ForK.ext (BlkK.hit ?_))
   refine Exec.pan (pv := pvE) 3 rfl ?_
   have X := (Fx.mk htk).a hta
   refine Run.frz 1000 V158 ?_
   have X := X.a h00
   refine Run.o1 V158 ?_
   refine Run.c1 (c_pagesErrorX l (by omega) hz) V158 V158 ?_
   refine Run.o1 V158 ?_
   exact Run.panc (p_need false rfl) V164 V158 V74 rfl
theorem p_rdG1 (text : Bs) (ls : List Bs) (l : List Pg) (hl : text.length ≤ 1000000000) (h : linesP text = some ls) (q : Nat) (line0 : Bs) (hq : ls[q]? = some line0) (hp0 : pageP line0 = none) (hm : (ls.take q).mapM pageP = some l) : Pan Tryz.prog pvE 52 [.leaf (.d (.pt [.raw (.string (bs text))]))] [] := by
 obtain ⟨hb1, hb2⟩ := lines_bnd h
 obtain ⟨m1, m2⟩ := mapM_at _ l hm
 have hql := (List.getElem?_eq_some_iff.1 hq).1
 rw [List.length_take, Nat.min_eq_left (by omega)] at m1
 refine pan_of follows_mixed Tryz.func52 rfl V111 V169 rfl ?_
 refine Exec.reg ?_
 refine Run.o ?_
 refine Run.nil (Exec.assocS (Exec.reg ?_))
 refine Run.o ?_
 refine Run.c1 (c_lines hl h) V162 V162 ?_
 refine Run.o ?_
 refine Run.nilo 1 1000 31 2 V162 V162 (by omega) (by omega) V162 ?_
 refine Run.o ?_
 refine Run.nil (Exec.blk ?_)
 refine Exec.forA [1, 5, 6, 7] [1000] (q) (fun k => [.slot 7 (.int k), .slot 1 (.leaf (.own 1000 0 k k)), .obj 1000 (.arr 31 2 ((l.take k).map encPg))]) (fun _ => True) (fun k => by simp only [go_sem] <;> rfl) V99 ?_ (fun k hk hX => ?_)
 ·trivial
 ·skip
  refine Exec.reg ?_
  refine Run.o ?_
  refine Run.nil ?_
  refine Exec.cndS V162 (fun hb8 => ?_) (fun hb8 => ?_)
  ·skip
   refine Exec.skipS (Exec.blk ?_)
   by_cases hkq : k < q
   ·skip
    obtain ⟨line, hx⟩ : ∃ line, ls[k]? = some line := ⟨_, List.getElem?_eq_getElem (by omega)⟩
    obtain ⟨pg, hpg, hpk⟩ := m2 k line (by rw [List.getElem?_take, if_pos hkq]; exact hx)
    have hwl : line.length ≤ 1000000000 := Nat.le_trans (hb2 line (List.mem_of_getElem? hx)) hl
    have htl : (l.take k).length = k := by rw [List.length_take]; omega
    have hts := take_snoc hpk
    refine Exec.reg ?_
    have X := (Fx.mk hx).a htl
    refine Run.o1 V88 ?_
    iterate 2 (refine Run.o1 V158 ?_)
    refine Run.nil (Exec.reg1 ?_)
    iterate 2 (refine Run.o1 V158 ?_)
    refine Run.c1 (c_page hwl hpg) V158 V158 ?_
    refine Run.o1 V158 ?_
    refine Run.o1 V7 ?_
    refine Run.o1 V158 ?_
    refine Run.nil (BlkK.nrm (Exec.reg1 ?_))
    refine Run.o1 V67 ?_
    refine Run.o1 V158 ?_
    refine Run.nil ?_
    refine ForK.nxt ?_ ?_ ?_
    ·omega
    ·exact Ghost.kp [1, 5, 6, 7] [1000] V19
    ·trivial
   ·skip
    have hke : k = q := by omega
    subst hke
    have hwl : line0.length ≤ 1000000000 := Nat.le_trans (hb2 line0 (List.mem_of_getElem? hq)) hl
    refine Exec.reg ?_
    have X := Fx.mk hq
    refine Run.o1 V88 ?_
    iterate 2 (refine Run.o1 V158 ?_)
    refine Run.nil ?_
    refine Exec.pan1 (pv := pvE) 2 rfl ?_
    iterate 2 (refine Run.o1 V158 ?_)
    exact Run.panc (p_page hwl hp0) V164 V158 V74 rfl
  ·skip
   exact absurd hb8 V168
end Go.Mw
namespace Go.Mw
open Go.Proofs Go.Bk
theorem parseG_some {text : Bs} {l : List Pg} (h : parseG text = some l) : ∃ ls, linesP text = some ls ∧ ls.mapM pageP = some l ∧ pagesE l = 0 := by
 unfold parseG strictG at h
 obtain ⟨l', h1, h2⟩ := Option.bind_eq_some_iff.1 h
 obtain ⟨ls, h3, h4⟩ := Option.bind_eq_some_iff.1 h1
 split at h2
 ·next hc => cases h2; exact ⟨ls, h3, h4, hc⟩
 ·cases h2
theorem c_rdPg {text : Bs} {l : List Pg} (hl : text.length ≤ 1000000000) (h : parseG text = some l) : Con Tryz.prog 52 [.leaf (.d (.pt [.raw (.string (bs text))]))] [] (.ret (.leaf (.d (pgsD l))) []) := by
 obtain ⟨ls, h1, h2, h3⟩ := parseG_some h
 exact c_rdG text ls l hl h1 h2 h3
theorem p_rdPg {text : Bs} (hl : text.length ≤ 1000000000) (h : parseG text = none) : Pan Tryz.prog pvE 52 [.leaf (.d (.pt [.raw (.string (bs text))]))] [] := by
 cases h1 : linesP text with
 | none => exact p_rdG0 text hl h1
 | some ls =>
  cases h2 : ls.mapM pageP with
  | none =>
   obtain ⟨q, line, l, g1, g2, g3⟩ := mapM_none ls h2
   exact p_rdG1 text ls l hl h1 q line g1 g2 g3
  | some l =>
   by_cases h3 : pagesE l = 0
   ·unfold parseG strictG at h
    rw [h1] at h
    simp only [Option.bind_some] at h
    rw [h2] at h
    simp only [Option.bind_some] at h
    rw [if_pos h3] at h; cases h
   ·exact p_rdG2 text ls l hl h1 h2 h3
end Go.Mw

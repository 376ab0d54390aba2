/- How the document cuts a text at a byte, byte by byte; plain laws, no program in sight. -/
import Derived.Test.YtpmdcdglfeicaaaGreatDoorD1
import Derived.Test.YtpmdcdglfeicaaaGreatDoorB6
import Derived.Test.YtpmdcdglfeicaaaGreatDoorB4
import Derived.Test.YtpmdcdglfeicaaaGreatDoorB11
import Derived.Test.YtpmdcdglfeicaaaGreatDoorB12
set_option linter.unusedSimpArgs false
set_option linter.unusedVariables false
set_option linter.unusedSectionVars false
set_option linter.deprecated false
namespace Go.Bk
def cutK (c : UInt8) (s : Bs) : Nat → List Bs × Nat
 | 0 => ([], 0)
 | i + 1 => if i = s.length ∨ s[i]? = some c then ((cutK c s i).1 ++ [(s.drop (cutK c s i).2).take (i - (cutK c s i).2)], i + 1) else cutK c s i
theorem cutK_hit {c : UInt8} {s : Bs} {i : Nat} (h : i = s.length ∨ s[i]? = some c) : cutK c s (i + 1) = ((cutK c s i).1 ++ [(s.drop (cutK c s i).2).take (i - (cutK c s i).2)], i + 1) := by rw [cutK, if_pos h]
theorem cutK_mis {c : UInt8} {s : Bs} {i : Nat} (h : ¬ (i = s.length ∨ s[i]? = some c)) : cutK c s (i + 1) = cutK c s i := by rw [cutK, if_neg h]
theorem cutK_bnd (c : UInt8) (s : Bs) : ∀ i, (cutK c s i).2 ≤ i ∧ (cutK c s i).1.length ≤ i
 | 0 => by simp [cutK]
 | i + 1 => by
  have := cutK_bnd c s i
  rw [cutK]
  split
  ·simp; omega
  ·omega
theorem cutK_inv (c : UInt8) (s : Bs) : ∀ i, i ≤ s.length → (∀ k, (cutK c s i).2 ≤ k → k < i → s[k]? ≠ some c) ∧ cutB c s = (cutK c s i).1 ++ cutB c (s.drop (cutK c s i).2)
 | 0, _ => ⟨fun k _ h => by omega, by simp [cutK]⟩
 | i + 1, hi => by
  obtain ⟨h1, h2⟩ := cutK_inv c s i (by omega)
  by_cases h : i = s.length ∨ s[i]? = some c
  ·rw [cutK_hit h]
   refine ⟨fun k ha hb => by simp only at ha; omega, ?_⟩
   have hc : s[i]? = some c := by rcases h with h | h; omega; exact h
   have hb := (cutK_bnd c s i).1
   obtain ⟨f, hf⟩ : ∃ f, (cutK c s i).2 = f := ⟨_, rfl⟩
   rw [hf] at h1 h2 hb ⊢
   have hd : s.drop f = (s.drop f).take (i - f) ++ c :: s.drop (i + 1) := by
    have h3 : (s.drop f).drop (i - f) = c :: s.drop (i + 1) := by
     rw [List.drop_drop, show f + (i - f) = i by omega]
     obtain ⟨hl, hg⟩ := List.getElem?_eq_some_iff.1 hc
     rw [← hg, List.getElem_cons_drop]
    rw [← h3, List.take_append_drop]
   have hn : c ∉ (s.drop f).take (i - f) := fun hm => by
    obtain ⟨k, hk⟩ := List.getElem?_of_mem hm
    have hkl : k < i - f := by
     have := (List.getElem?_eq_some_iff.1 hk).1
     rw [List.length_take] at this; omega
    rw [List.getElem?_take, if_pos hkl, List.getElem?_drop] at hk
    exact h1 (f + k) (by omega) (by omega) hk
   have hcut : cutB c (s.drop f) = (s.drop f).take (i - f) :: cutB c (s.drop (i + 1)) := by
    conv => lhs; rw [hd]
    rw [cutB_app c _ _ hn]
   rw [h2, hcut]
   show _ = ((cutK c s i).1 ++ [(s.drop f).take (i - f)]) ++ cutB c (s.drop (i + 1))
   rw [List.append_assoc]; rfl
  ·rw [cutK_mis h]
   refine ⟨fun k ha hb => ?_, h2⟩
   by_cases hk : k = i
   ·subst hk; exact fun e => h (.inr e)
   ·exact h1 k ha (by omega)
theorem cutK_end (c : UInt8) (s : Bs) : (cutK c s (s.length + 1)).1 = cutB c s := by
 obtain ⟨h1, h2⟩ := cutK_inv c s s.length (Nat.le_refl _)
 rw [cutK_hit (.inl rfl), h2]
 have hb := (cutK_bnd c s s.length).1
 obtain ⟨f, hf⟩ : ∃ f, (cutK c s s.length).2 = f := ⟨_, rfl⟩
 rw [hf] at h1 hb ⊢
 have hn : c ∉ s.drop f := fun hm => by
  obtain ⟨k, hk⟩ := List.getElem?_of_mem hm
  have hkl := (List.getElem?_eq_some_iff.1 hk).1
  rw [List.length_drop] at hkl
  rw [List.getElem?_drop] at hk
  exact h1 (f + k) (by omega) (by omega) hk
 rw [cutB_none c _ hn]
 show _ ++ [(s.drop f).take (s.length - f)] = _
 rw [List.take_of_length_le (by rw [List.length_drop]; omega)]
theorem ext_take (s : Bs) (f i : Nat) : (s.take i).drop f = (s.drop f).take (i - f) := by rw [List.drop_take]
end Go.Bk
namespace Go.Mw
open Go.Proofs
open Go.Bk
attribute [local go_sem] decide_true beq_self_eq_true bne_self_eq_false
theorem min_cast (m a : Nat) : pick2 true (m : Int) (a : Int) = ((min m a : Nat) : Int) := by
 simp only [pick2, cond_true]
 split <;> omega
theorem min40 (a : Nat) : pick2 true 1099511627776 (a : Int) = ((min 1099511627776 a : Nat) : Int) := min_cast 1099511627776 a
theorem vst_dig {c : UInt8} (n : Nat) (h : isDig c = true) : vst n c = min 1099511627776 (10 * n + (c.toNat - 48)) := by unfold vst; rw [if_pos h, show (2 : Nat) ^ 40 = 1099511627776 by decide]
theorem vst_not {c : UInt8} (n : Nat) (h : isDig c = false) : vst n c = n := by unfold vst; rw [if_neg (by simp [h])]
set_option maxRecDepth 20000 in
theorem c_value (s : Bs) (hs : s.length ≤ 1000000000) : Contract Tryz.prog 87 [.str s] (.int (valM s)) [] := by
 have hv0 : valM [] = 0 := rfl
 refine con_of follows_mixed Tryz.func87 rfl (by simp only [List.length_cons, List.length_nil, Tryz.ntmps87]; omega) V146 rfl ?_
 refine Exec.reg ?_
 refine Run.o ?_
 refine Run.nil (Exec.reg ?_)
 refine Run.o ?_
 refine Run.nil (Exec.assocS (Exec.reg ?_))
 refine Run.o ?_
 refine Run.nil (Exec.blk ?_)
 have X := Fx.mk hv0
 refine Exec.forA [0, 3, 4] [] (s.length) (fun k => [.slot 3 (.int (valM (s.take k))), .slot 4 (.int k)]) (fun _ => True) (fun k => by simp only [go_sem] <;> rfl) V93 ?_ (fun k hk hX => ?_)
 ·trivial
 ·skip
  refine Exec.assocS (Exec.reg ?_)
  iterate 4 (refine Run.o ?_)
  refine Run.nil ?_
  refine Exec.cndS V139 (fun hb8 => ?_) (fun hb8 => ?_)
  ·skip
   have hlt : k < s.length := by simpa using hb8
   obtain ⟨c, hx⟩ : ∃ c, s[k]? = some c := ⟨_, List.getElem?_eq_getElem hlt⟩
   have hc8 := c.toNat_lt
   have hvm := valM_le (s.take k)
   refine Exec.skipS (Exec.blk ?_)
   by_cases h1 : 48 ≤ c.toNat
   ·skip
    have hd1 : decide ((c.toNat : Int) ≥ 48) = true := by first | exact decide_eq_true (by omega) | exact decide_eq_false (by omega)
    refine Exec.reg ?_
    have X := (Fx.mk hx).a hd1
    iterate 5 (refine Run.o1 V136 ?_)
    iterate 4 (refine Run.y1 V136 ?_)
    refine Run.o1 V136 ?_
    refine Run.nil ?_
    refine Exec.cnd V136 (fun hb20 => ?_) (fun hb20 => ?_)
    ·skip
     have h2 : c.toNat ≤ 57 := by have := of_decide_eq_true hb20; omega
     have hv : valM (s.take (k + 1)) = min 1099511627776 (10 * valM (s.take k) + (c.toNat - 48)) := by rw [take_snoc hx, valM_snoc, vst_dig _ (isDig_iff.2 ⟨h1, h2⟩)]
     have w1 : IntKind.u8.wrap ((c.toNat : Int) - 48) = ((c.toNat - 48 : Nat) : Int) := by rw [IntWalk.u8_in _ (by omega)]; omega
     have w2 : IntKind.i64.wrap ((c.toNat - 48 : Nat) : Int) = ((c.toNat - 48 : Nat) : Int) := IntWalk.i64_in _ (by omega)
     have w3 : IntKind.i64.wrap (10 * (valM (s.take k) : Int)) = ((10 * valM (s.take k) : Nat) : Int) := by rw [IntWalk.i64_in _ (by omega)]; omega
     have w4 : IntKind.i64.wrap (((10 * valM (s.take k) : Nat) : Int) + ((c.toNat - 48 : Nat) : Int)) = ((10 * valM (s.take k) + (c.toNat - 48) : Nat) : Int) := by rw [IntWalk.i64_in _ (by omega)]; omega
     have w5 := min40 (10 * valM (s.take k) + (c.toNat - 48))
     refine Exec.reg1 ?_
     have X := (((((X.a hv).a w1).a w2).a w3).a w4).a w5
     refine Run.o1 V136 ?_
     refine Run.o1 V55 ?_
     iterate 3 (refine Run.o1 V136 ?_)
     iterate 3 (refine Run.o1 V55 ?_)
     iterate 2 (refine Run.o1 V136 ?_)
     refine Run.nil (BlkK.nrm (Exec.reg1 ?_))
     refine Run.o1 V136 ?_
     refine Run.o1 V55 ?_
     refine Run.o1 V136 ?_
     refine Run.nil ?_
     refine ForK.nxt ?_ ?_ ?_
     ·omega
     ·exact Ghost.kp [0, 3, 4] [] V108
     ·trivial
    ·skip
     have h2 : ¬ c.toNat ≤ 57 := by have := of_decide_eq_false hb20; omega
     have hv : valM (s.take (k + 1)) = valM (s.take k) := by rw [take_snoc hx, valM_snoc, vst_not _ (by unfold isDig; rw [decide_eq_false h2, Bool.and_false])]
     refine BlkK.nrm (Exec.reg1 ?_)
     have X := X.a hv
     refine Run.o1 V136 ?_
     refine Run.o1 V55 ?_
     refine Run.o1 V136 ?_
     refine Run.nil ?_
     refine ForK.nxt ?_ ?_ ?_
     ·omega
     ·exact Ghost.kp [0, 3, 4] [] V108
     ·trivial
   ·skip
    have hd1 : decide ((c.toNat : Int) ≥ 48) = false := by first | exact decide_eq_true (by omega) | exact decide_eq_false (by omega)
    have hv : valM (s.take (k + 1)) = valM (s.take k) := by rw [take_snoc hx, valM_snoc, vst_not _ (by unfold isDig; rw [decide_eq_false h1]; rfl)]
    refine Exec.reg ?_
    have X := ((Fx.mk hx).a hd1).a hv
    iterate 5 (refine Run.o1 V136 ?_)
    iterate 4 (refine Run.s ?_)
    refine Run.o1 V136 ?_
    refine Run.nil ?_
    refine Exec.cnd V136 (fun hb20 => ?_) (fun hb20 => ?_)
    ·exact absurd hb20 (by simp)
    ·skip
     refine BlkK.nrm (Exec.reg1 ?_)
     refine Run.o1 V136 ?_
     refine Run.o1 V55 ?_
     refine Run.o1 V136 ?_
     refine Run.nil ?_
     refine ForK.nxt ?_ ?_ ?_
     ·omega
     ·exact Ghost.kp [0, 3, 4] [] V108
     ·trivial
  ·skip
   have hke : s.length ≤ k := by simpa using hb8
   have htk : s.take k = s := List.take_of_length_le hke
   refine Exec.exitS (ForK.ext (BlkK.hit (Exec.reg ?_)))
   have X := Fx.mk htk
   iterate 2 (refine Run.o1 V136 ?_)
   refine Run.nil ?_
   exact Ends.fin [] (rs := [.tmp 2]) rfl V136 V107

set_option maxRecDepth 20000 in
set_option maxHeartbeats 4000000 in
theorem c_rCut (s : Bs) (c : UInt8) (hs : s.length ≤ 1000000000) : Contract Tryz.prog 86 [.str s, .leaf (.d (.raw (.int .u8 (c.toNat : Nat))))] (.leaf (.d (strsD (cutB c s)))) [] := by
 refine con_of follows_mixed Tryz.func86 rfl (by simp only [List.length_cons, List.length_nil, Tryz.ntmps86]; omega) V146 rfl ?_
 refine Exec.reg ?_
 refine Run.o ?_
 refine Run.nil (Exec.reg ?_)
 refine Run.o ?_
 refine Run.nil (Exec.reg ?_)
 refine Run.o ?_
 refine Run.nil (Exec.assocS (Exec.reg ?_))
 refine Run.nilo 5 1000 9 1 V139 V139 (by omega) (by omega) V139 ?_
 refine Run.o ?_
 refine Run.nil (Exec.blk ?_)
 refine Exec.forA [0, 1, 5, 6, 7] [1000] (s.length + 1) (fun k => [.slot 5 (.leaf (.own 1000 0 (cutK c s k).1.length (cutK c s k).1.length)), .slot 6 (.int (cutK c s k).2), .slot 7 (.int k), .obj 1000 (.arr 9 1 ((cutK c s k).1.map encStr))]) (fun _ => True) (fun k => by simp only [go_sem] <;> rfl) (by simp only [go_sem, Int.natCast_zero, cutK, List.map_nil, List.length_nil] <;> rfl) ?_ (fun k hk hX => ?_)
 ·trivial
 ·skip
  refine Exec.assocS (Exec.reg ?_)
  iterate 4 (refine Run.o ?_)
  refine Run.nil ?_
  refine Exec.cndS V139 (fun hb11 => ?_) (fun hb11 => ?_)
  ·skip
   have hlt : k ≤ s.length := by have := of_decide_eq_true hb11; omega
   have hbd := cutK_bnd c s k
   have hxt := ext_take s (cutK c s k).2 k
   refine Exec.skipS (Exec.blk ?_)
   by_cases h1 : k = s.length
   ·skip
    have e1 : ((k : Int) == (s.length : Int)) = true := beq_iff_eq.2 (by omega)
    have hh := cutK_hit (c := c) (s := s) (i := k) (.inl h1)
    refine Exec.reg ?_
    have X := Fx.mk e1
    iterate 5 (refine Run.o1 V136 ?_)
    iterate 5 (refine Run.s ?_)
    refine Run.o1 V136 ?_
    refine Run.nil ?_
    refine Exec.cnd V136 (fun hb24 => ?_) (fun hb24 => ?_)
    ·skip
     refine Exec.reg ?_
     have X := (X.a hh).a hxt
     iterate 4 (refine Run.o1 V136 ?_)
     refine Run.o1 V72 ?_
     refine Run.o1 V136 ?_
     refine Run.o1 V4 ?_
     refine Run.o1 V136 ?_
     refine Run.nil (Exec.reg1 ?_)
     refine Run.o1 V136 ?_
     refine Run.o1 V55 ?_
     refine Run.o1 V136 ?_
     refine Run.nil (BlkK.nrm (Exec.reg1 ?_))
     refine Run.o1 V136 ?_
     refine Run.o1 V55 ?_
     refine Run.o1 V136 ?_
     refine Run.nil ?_
     refine ForK.nxt ?_ ?_ ?_
     ·omega
     ·exact Ghost.kp [0, 1, 5, 6, 7] [1000] V10
     ·trivial
    ·exact absurd hb24 (by simp)
   ·skip
    have e1 : ((k : Int) == (s.length : Int)) = false := beq_eq_false_iff_ne.2 (by omega)
    obtain ⟨x, hx⟩ : ∃ x, s[k]? = some x := ⟨_, List.getElem?_eq_getElem (by omega)⟩
    refine Exec.reg ?_
    have X := (Fx.mk hx).a e1
    iterate 5 (refine Run.o1 V136 ?_)
    iterate 5 (refine Run.y1 V136 ?_)
    refine Run.o1 V136 ?_
    refine Run.nil ?_
    refine Exec.cnd V136 (fun hb24 => ?_) (fun hb24 => ?_)
    ·skip
     have hxc : x = c := by
      have := hb24
      simp at this
      exact UInt8.toNat_inj.1 (by omega)
     have hh := cutK_hit (c := c) (s := s) (i := k) (.inr (hxc ▸ hx))
     refine Exec.reg ?_
     have X := (X.a hh).a hxt
     iterate 4 (refine Run.o1 V136 ?_)
     refine Run.o1 V72 ?_
     refine Run.o1 V136 ?_
     refine Run.o1 V4 ?_
     refine Run.o1 V136 ?_
     refine Run.nil (Exec.reg1 ?_)
     refine Run.o1 V136 ?_
     refine Run.o1 V55 ?_
     refine Run.o1 V136 ?_
     refine Run.nil (BlkK.nrm (Exec.reg1 ?_))
     refine Run.o1 V136 ?_
     refine Run.o1 V55 ?_
     refine Run.o1 V136 ?_
     refine Run.nil ?_
     refine ForK.nxt ?_ ?_ ?_
     ·omega
     ·exact Ghost.kp [0, 1, 5, 6, 7] [1000] V10
     ·trivial
    ·skip
     have hxc : x ≠ c := fun h => by subst h; simp at hb24
     have hh := cutK_mis (c := c) (s := s) (i := k) (fun h => h.elim h1 fun h => by rw [hx] at h; exact hxc (Option.some.inj h))
     refine BlkK.nrm (Exec.reg1 ?_)
     have X := X.a hh
     refine Run.o1 V136 ?_
     refine Run.o1 V55 ?_
     refine Run.o1 V136 ?_
     refine Run.nil ?_
     refine ForK.nxt ?_ ?_ ?_
     ·omega
     ·exact Ghost.kp [0, 1, 5, 6, 7] [1000] V108
     ·trivial
  ·skip
   have hke : k = s.length + 1 := by have := of_decide_eq_false hb11; omega
   subst hke
   have hce := cutK_end c s
   have htk : List.take (cutB c s).length (List.map encStr (cutB c s)) = List.map encStr (cutB c s) := List.take_of_length_le (by simp)
   refine Exec.exitS (ForK.ext (BlkK.hit (Exec.reg ?_)))
   have X := Fx.mk htk
   refine Run.frz 1000 V136 ?_
   have X := (Fx.mk hce).a htk
   iterate 2 (refine Run.o1 V136 ?_)
   refine Run.nil ?_
   exact Ends.fin [] (rs := [.tmp 4]) rfl V136 V107

end Go.Mw
namespace Go.Mw
open Go.Proofs
open Go.Bk
attribute [local go_sem] decide_true beq_self_eq_true bne_self_eq_false
theorem sortB_snoc : ∀ (a : List Int) (n : Int), sortB a = true → (∀ m, a.getLast? = some m → m ≤ n) → sortB (a ++ [n]) = true
 | [], n, _, _ => rfl
 | [x], n, _, h => by
  have := h x rfl
  simp [sortB, this]
 | x :: y :: a, n, h, hm => by
  simp only [sortB, Bool.and_eq_true] at h
  have ih := sortB_snoc (y :: a) n h.2 (fun m h => hm m (by rw [List.getLast?_cons_cons]; exact h))
  show sortB (x :: y :: (a ++ [n])) = true
  simp only [sortB, Bool.and_eq_true]
  exact ⟨h.1, ih⟩
theorem last_take {l : List Int} {j : Nat} (h0 : 0 < j) (hj : j ≤ l.length) : (l.take j).getLast? = l[j - 1]? := by
 rw [List.getLast?_eq_getElem?, List.length_take, Nat.min_eq_left hj, List.getElem?_take, if_pos (by omega)]
theorem sort_step {l : List Int} {j : Nat} {n : Int} (hn : l[j]? = some n) (h : sortB (l.take j) = true) (hm : 0 < j → ∀ m, l[j - 1]? = some m → m ≤ n) : sortB (l.take (j + 1)) = true := by
 rw [take_snoc hn]
 refine sortB_snoc _ _ h fun m h2 => ?_
 have hj := (List.getElem?_eq_some_iff.1 hn).1
 by_cases h0 : 0 < j
 ·rw [last_take h0 (by omega)] at h2
  exact hm h0 m h2
 ·have : j = 0 := by omega
  subst this
  simp at h2
theorem sort_at : ∀ {l : List Int} {j : Nat} {m n : Int}, sortB l = true → l[j]? = some m → l[j + 1]? = some n → m ≤ n
 | [], j, m, n, _, h, _ => by simp at h
 | [x], j, m, n, _, _, h => by simp at h
 | x :: y :: l, 0, m, n, h, h1, h2 => by
  simp only [sortB, Bool.and_eq_true, decide_eq_true_eq] at h
  simp at h1 h2
  subst h1 h2; exact h.1
 | x :: y :: l, j + 1, m, n, h, h1, h2 => by
  simp only [sortB, Bool.and_eq_true] at h
  exact sort_at h.2 (by simpa using h1) (by simpa using h2)
theorem page_bad {l : List Pg} {k : Nat} {x : Pg} (hx : l[k]? = some x) (h : ¬ pageOK x = true) : l.all pageOK = false := by
 cases h2 : l.all pageOK with
 | false => rfl
 | true => exact absurd (all_at h2 hx) h
theorem pageOK_iff {x : Pg} : pageOK x = true ↔ inD x.house 0 9999 = true ∧ x.reads.length ≤ 16 ∧ x.reads.all (fun n => inD n 0 1073741824) = true ∧ sortB x.reads = true := by
 unfold pageOK
 simp only [Bool.and_eq_true, decide_eq_true_eq, and_assoc]
set_option maxRecDepth 20000 in
set_option maxHeartbeats 16000000 in
theorem c_ref_Pages (l : List Pg) (hl : l.length ≤ 1000) (hz : ∀ x ∈ l, x.reads.length ≤ 1000) : Contract Tryz.prog 40 [.leaf (.d (pgsD l))] (.int (pagesE l)) [] := by
 have hpe : pagesE l = errB l.length 32 (l.all pageOK) (rises (l.map Pg.house)) := rfl
 refine con_of follows_mixed Tryz.func40 rfl (by simp only [List.length_cons, List.length_nil, Tryz.ntmps40]; omega) V146 rfl ?_
 refine Exec.reg ?_
 refine Run.o ?_
 refine Run.nil (Exec.assocS (Exec.reg ?_))
 iterate 3 (refine Run.o ?_)
 refine Run.nil ?_
 refine Exec.cndS V139 (fun hb8 => ?_) (fun hb8 => ?_)
 ·skip
  have h1 : 32 < l.length := by have := of_decide_eq_true hb8; omega
  have hr := err3 (l.all pageOK) (rises (l.map Pg.house)) h1
  refine Exec.assocS (Exec.reg ?_)
  have X := (Fx.mk hpe).a hr
  refine Run.o1 V136 ?_
  refine Run.nil (Exec.retS ?_)
  exact Ends.fin [] (rs := [.tmp 2]) rfl V136 V107
 ·skip
  have hle : l.length ≤ 32 := by have := of_decide_eq_false hb8; omega
  refine Exec.skipS (Exec.assocS (Exec.reg ?_))
  refine Run.o ?_
  refine Run.nil (Exec.blk ?_)
  refine Exec.forA [0, 3] [] (l.length) (fun k => [.slot 3 (.int k)]) (fun k => (l.take k).all pageOK = true) (fun k => by simp only [go_sem] <;> rfl) V119 ?_ (fun k hk hX => ?_)
  ·rfl
  ·skip
   refine Exec.assocS (Exec.reg ?_)
   iterate 4 (refine Run.o ?_)
   refine Run.nil ?_
   refine Exec.cndS V139 (fun hb12 => ?_) (fun hb12 => ?_)
   ·skip
    have hlt := lt_of_dec hb12
    obtain ⟨x, hx⟩ := elem_of hb12
    have hxz := hz x (List.mem_of_getElem? hx)
    refine Exec.skipS (Exec.blk (Exec.assocS ?_))
    by_cases g1 : inD x.house 0 9999 = true
    ·skip
     refine Exec.reg ?_
     have X := (Fx.mk hx).a g1
     iterate 2 (refine Run.o1 V117 ?_)
     refine Run.o1 V61 ?_
     iterate 2 (refine Run.o1 V117 ?_)
     refine Run.c1 (c_ref_in x.house 0 9999) V117 V117 ?_
     iterate 2 (refine Run.o1 V117 ?_)
     iterate 2 (refine Run.y1 V117 ?_)
     refine Run.y1 V61 ?_
     iterate 4 (refine Run.y1 V117 ?_)
     refine Run.o1 V117 ?_
     refine Run.nil ?_
     refine Exec.cndS V117 (fun hb30 => ?_) (fun hb30 => ?_)
     ·skip
      have h16 : ¬ x.reads.length ≤ 16 := by have := of_decide_eq_true hb30; omega
      have hna := page_bad hx (fun h => h16 (pageOK_iff.1 h).2.1)
      have hr := err1 (rises (l.map Pg.house)) hle
      refine Exec.assocS (Exec.reg ?_)
      have X := ((X.a hpe).a hna).a hr
      refine Run.o1 V117 ?_
      refine Run.nil (Exec.retS (BlkK.ret (ForK.ret (BlkK.ret ?_))))
      exact Ends.fin [] (rs := [.tmp 2]) rfl V117 (by simp only [go_sem, X.h, Bool.not_true] <;> first | rfl | exact eqz)
     ·skip
      have h16 : x.reads.length ≤ 16 := by have := of_decide_eq_false hb30; omega
      refine Exec.skipS (Exec.reg ?_)
      refine Run.o1 V117 ?_
      refine Run.nil (Exec.blk1 ?_)
      refine Exec.forA [0, 3, 4] [] (x.reads.length) (fun j => [.slot 4 (.int j)]) (fun j => (x.reads.take j).all (fun n => inD n 0 1073741824) = true ∧ sortB (x.reads.take j) = true) (fun j => by simp only [go_sem] <;> rfl) (by simp only [go_sem, X.h, Bool.not_true, Int.natCast_zero] <;> rfl) ?_ (fun j hj Xj => ?_)
      ·exact ⟨rfl, rfl⟩
      ·skip
       refine Exec.assocS (Exec.reg ?_)
       iterate 3 (refine Run.o1 V117 ?_)
       refine Run.o1 V61 ?_
       iterate 4 (refine Run.o1 V117 ?_)
       refine Run.nil ?_
       refine Exec.cndS V117 (fun hb38 => ?_) (fun hb38 => ?_)
       ·skip
        have hlt2 := lt_of_dec hb38
        obtain ⟨n, hn⟩ := elem_of hb38
        refine Exec.skipS (Exec.blk ?_)
        by_cases q1 : inD n 0 1073741824 = true
        ·skip
         by_cases q2 : 0 < j
         ·skip
          have hd : decide ((j : Int) > 0) = true := decide_eq_true (by omega)
          have ht : ((j : Int) - 1).toNat = j - 1 := by omega
          obtain ⟨m, hm⟩ : ∃ m, x.reads[j - 1]? = some m := ⟨_, List.getElem?_eq_getElem (by omega)⟩
          refine Exec.opk 36 ?_
          have X := ((((X.a hn).a q1).a hd).a ht).a hm
          iterate 2 (refine OpenK.o1 V100 ?_)
          refine OpenK.o1 V46 ?_
          iterate 3 (refine OpenK.o1 V100 ?_)
          refine OpenK.o1 V46 ?_
          refine OpenK.o1 V100 ?_
          refine OpenK.cal (c_ref_in n 0 1073741824) V141 V100 V19 (fr0) V100 V139 V139 ?_
          iterate 2 (refine OpenK.o1 V100 ?_)
          iterate 5 (refine OpenK.y1 V100 ?_)
          refine OpenK.y1 V46 ?_
          iterate 3 (refine OpenK.y1 V100 ?_)
          refine OpenK.y1 V46 ?_
          iterate 3 (refine OpenK.y1 V100 ?_)
          refine OpenK.y1 V46 ?_
          iterate 3 (refine OpenK.y1 V100 ?_)
          refine OpenK.y1 V41 ?_
          refine OpenK.y1 V46 ?_
          iterate 3 (refine OpenK.y1 V100 ?_)
          refine OpenK.o1 V100 ?_
          refine OpenK.nil (OpenE.finT V146 V146 V146 ?_)
          refine Exec.cnd V100 (fun hb74 => ?_) (fun hb74 => ?_)
          ·skip
           have hlt3 : n < m := of_decide_eq_true hb74
           have hna := page_bad hx (fun h => by have h5 := sort_at (l := x.reads) (j := j - 1) (pageOK_iff.1 h).2.2.2 hm (by rw [show j - 1 + 1 = j by omega]; exact hn); omega)
           have hr := err1 (rises (l.map Pg.house)) hle
           refine Exec.reg ?_
           have X := ((X.a hpe).a hna).a hr
           refine Run.o1 V100 ?_
           refine Run.nil (BlkK.ret (ForK.ret (Blk1K.ret (BlkK.ret (ForK.ret (BlkK.ret ?_))))))
           exact Ends.fin [] (rs := [.tmp 2]) rfl V100 (by simp only [go_sem, X.h, Bool.not_true, Bool.not_true] <;> first | rfl | exact eqz)
          ·skip
           have hge3 : m ≤ n := by have := of_decide_eq_false hb74; omega
           have hst := sort_step hn Xj.2 (fun _ m2 h2 => by rw [hm] at h2; cases h2; exact hge3)
           refine BlkK.nrm (Exec.reg1 ?_)
           refine Run.o1 V100 ?_
           refine Run.o1 V41 ?_
           refine Run.o1 V100 ?_
           refine Run.nil ?_
           refine ForK.nxt ?_ ?_ ?_
           ·omega
           ·exact Ghost.kp [0, 3, 4] [] (by simp only [go_sem, X.h, Bool.not_true, Bool.not_true] <;> first | exact eqz | rfl)
           ·exact ⟨by rw [take_snoc hn, List.all_append, Xj.1]; simp [q1], hst⟩
         ·skip
          have hd : decide ((j : Int) > 0) = false := decide_eq_false (by omega)
          refine Exec.opk 36 ?_
          have X := ((X.a hn).a q1).a hd
          iterate 2 (refine OpenK.o1 V100 ?_)
          refine OpenK.o1 V46 ?_
          iterate 3 (refine OpenK.o1 V100 ?_)
          refine OpenK.o1 V46 ?_
          refine OpenK.o1 V100 ?_
          refine OpenK.cal (c_ref_in n 0 1073741824) V141 V100 V19 (fr0) V100 V139 V139 ?_
          iterate 2 (refine OpenK.o1 V100 ?_)
          iterate 3 (refine OpenK.y1 V100 ?_)
          iterate 18 (refine OpenK.s ?_)
          refine OpenK.y1 V100 ?_
          refine OpenK.o1 V100 ?_
          refine OpenK.nil (OpenE.finT V146 V146 V146 ?_)
          refine Exec.cnd V100 (fun hb74 => ?_) (fun hb74 => ?_)
          ·exact absurd hb74 (by simp)
          ·skip
           have hst := sort_step hn Xj.2 (fun h => absurd h q2)
           refine BlkK.nrm (Exec.reg1 ?_)
           refine Run.o1 V100 ?_
           refine Run.o1 V41 ?_
           refine Run.o1 V100 ?_
           refine Run.nil ?_
           refine ForK.nxt ?_ ?_ ?_
           ·omega
           ·exact Ghost.kp [0, 3, 4] [] (by simp only [go_sem, X.h, Bool.not_true, Bool.not_true] <;> first | exact eqz | rfl)
           ·exact ⟨by rw [take_snoc hn, List.all_append, Xj.1]; simp [q1], hst⟩
        ·skip
         have h1 : inD n 0 1073741824 = false := by simpa using q1
         refine Exec.opk 36 ?_
         have X := (X.a hn).a h1
         iterate 2 (refine OpenK.o1 V99 ?_)
         refine OpenK.o1 V43 ?_
         iterate 3 (refine OpenK.o1 V99 ?_)
         refine OpenK.o1 V43 ?_
         refine OpenK.o1 V99 ?_
         refine OpenK.cal (c_ref_in n 0 1073741824) V141 V99 V19 (fr0) V99 V139 V139 ?_
         iterate 2 (refine OpenK.o1 V99 ?_)
         iterate 22 (refine OpenK.s ?_)
         refine OpenK.o1 V99 ?_
         refine OpenK.nil (OpenE.finT V146 V146 V146 ?_)
         refine Exec.cnd V99 (fun hb74 => ?_) (fun hb74 => ?_)
         ·skip
          have hna := page_bad hx (fun h => q1 (List.all_eq_true.1 (pageOK_iff.1 h).2.2.1 n (List.mem_of_getElem? hn)))
          have hr := err1 (rises (l.map Pg.house)) hle
          refine Exec.reg ?_
          have X := ((X.a hpe).a hna).a hr
          refine Run.o1 V99 ?_
          refine Run.nil (BlkK.ret (ForK.ret (Blk1K.ret (BlkK.ret (ForK.ret (BlkK.ret ?_))))))
          exact Ends.fin [] (rs := [.tmp 2]) rfl V99 (by simp only [go_sem, X.h, Bool.not_true, Bool.not_false] <;> first | rfl | exact eqz)
         ·exact absurd hb74 (by simp)
       ·skip
        have hjn := ge_of_dec hb38
        obtain ⟨y1, y2⟩ := Xj
        rw [List.take_of_length_le hjn] at y1 y2
        have hok : pageOK x = true := pageOK_iff.2 ⟨g1, h16, y1, y2⟩
        refine Exec.exitS (ForK.ext (Blk1K.hit (BlkK.nrm (Exec.reg1 ?_))))
        refine Run.o1 V117 ?_
        refine Run.o1 (by simp only [go_sem, X.h, Bool.not_true]; (try simp (disch := omega) only [IntWalk.i64_in, IntWalk.u64_in, IntWalk.i32_in, IntWalk.u8_in, if_neg, if_pos])<;> rfl) ?_
        refine Run.o1 V117 ?_
        refine Run.nil ?_
        refine ForK.nxt ?_ ?_ ?_
        ·omega
        ·exact Ghost.kp [0, 3] [] (by simp only [go_sem, X.h, Bool.not_true] <;> first | exact eqz | rfl)
        ·exact by rw [take_snoc hx, List.all_append, hX]; simp [hok]
    ·skip
     have h1 : inD x.house 0 9999 = false := by simpa using g1
     refine Exec.reg ?_
     have X := (Fx.mk hx).a h1
     iterate 2 (refine Run.o1 V114 ?_)
     refine Run.o1 (by simp only [go_sem, X.h, Bool.not_false]; (try simp (disch := omega) only [if_pos]); (try simp only [go_sem, X.h, Bool.not_false])<;> rfl) ?_
     iterate 2 (refine Run.o1 V114 ?_)
     refine Run.c1 (c_ref_in x.house 0 9999) V114 V114 ?_
     iterate 2 (refine Run.o1 V114 ?_)
     iterate 7 (refine Run.s ?_)
     refine Run.o1 V114 ?_
     refine Run.nil ?_
     refine Exec.cndS V114 (fun hb30 => ?_) (fun hb30 => ?_)
     ·skip
      have hna := page_bad hx (fun h => g1 (pageOK_iff.1 h).1)
      have hr := err1 (rises (l.map Pg.house)) hle
      refine Exec.assocS (Exec.reg ?_)
      have X := ((X.a hpe).a hna).a hr
      refine Run.o1 V114 ?_
      refine Run.nil (Exec.retS (BlkK.ret (ForK.ret (BlkK.ret ?_))))
      exact Ends.fin [] (rs := [.tmp 2]) rfl V114 (by simp only [go_sem, X.h, Bool.not_false] <;> first | rfl | exact eqz)
     ·exact absurd hb30 (by simp)
   ·skip
    have hall : l.all pageOK = true := by have := ge_of_dec hb12; rw [List.take_of_length_le this] at hX; exact hX
    refine Exec.exitS (ForK.ext (BlkK.hit (Exec.assocS (Exec.reg ?_))))
    refine Run.o ?_
    refine Run.nil (Exec.blk ?_)
    refine Exec.forA [0, 5] [] (l.length) (fun i => [.slot 5 (.int (1 + (i : Int)))]) (fun i => riseT (l.map Pg.house) (1 + i)) (fun i => by simp only [go_sem] <;> rfl) (by simp only [go_sem, Int.natCast_zero, Int.add_zero] <;> rfl) ?_ (fun i hi Xi => ?_)
    ·exact rise_one _
    ·skip
     refine Exec.assocS (Exec.reg ?_)
     iterate 4 (refine Run.o ?_)
     refine Run.nil ?_
     refine Exec.cndS V139 (fun hb78 => ?_) (fun hb78 => ?_)
     ·skip
      have hjl : 1 + i < l.length := by have := of_decide_eq_true hb78; omega
      obtain ⟨x, hx⟩ : ∃ x, l[1 + i]? = some x := ⟨_, List.getElem?_eq_getElem hjl⟩
      obtain ⟨y, hy⟩ : ∃ y, l[1 + i - 1]? = some y := ⟨_, List.getElem?_eq_getElem (by omega)⟩
      have hy2 : l[i]? = some y := by rw [← hy]; congr 1; omega
      have t1 : ((1 : Int) + (i : Int) - 1).toNat = i := by omega
      have t2 : ((1 : Int) + (i : Int)).toNat = 1 + i := by omega
      refine Exec.skipS (Exec.blk ?_)
      refine Exec.opk 14 ?_
      have X := (((Fx.mk hx).a hy2).a t1).a t2
      iterate 2 (refine OpenK.o1 V136 ?_)
      refine OpenK.o1 V72 ?_
      iterate 4 (refine OpenK.o1 V136 ?_)
      refine OpenK.o1 V55 ?_
      refine OpenK.o1 V72 ?_
      iterate 3 (refine OpenK.o1 V136 ?_)
      refine OpenK.nil (OpenE.fin V143 V143 ?_)
      refine Exec.cnd V136 (fun hb92 => ?_) (fun hb92 => ?_)
      ·skip
       have hno := rise_no (f := Pg.house) (k := 1 + i) (by omega) hx hy (by have := of_decide_eq_true hb92; omega)
       have hr := err7 hle
       refine Exec.reg ?_
       have X := (((X.a hpe).a hall).a hno).a hr
       refine Run.o1 V136 ?_
       refine Run.nil (BlkK.ret (ForK.ret (BlkK.ret ?_)))
       exact Ends.fin [] (rs := [.tmp 2]) rfl V136 V107
      ·skip
       refine BlkK.nrm (Exec.reg1 ?_)
       refine Run.o1 V136 ?_
       refine Run.o1 V55 ?_
       refine Run.o1 V136 ?_
       refine Run.nil ?_
       refine ForK.nxt ?_ ?_ ?_
       ·omega
       ·exact Ghost.kp [0, 5] [] V108
       ·exact rise_step Xi hx hy (by have := of_decide_eq_false hb92; omega)
     ·skip
      have hno := rise_done Xi (by have := of_decide_eq_false hb78; omega)
      have hr := err0 hle
      refine Exec.exitS (ForK.ext (BlkK.hit (Exec.reg ?_)))
      have X := (((Fx.mk hpe).a hall).a hno).a hr
      refine Run.o1 V136 ?_
      refine Run.nil ?_
      exact Ends.fin [] (rs := [.tmp 2]) rfl V136 V107

end Go.Mw
namespace Go.Bk
theorem tot_app (a b : List (Nat × Int)) : tot (a ++ b) = tot a + tot b := by simp [tot]
theorem tot_step {gs : List (Nat × Int)} {j : Nat} {g : Nat × Int} (h : gs[j]? = some g) : tot (gs.take (j + 1)) = tot (gs.take j) + g.1 := by
 rw [List.take_add_one, h, tot_app]; simp [tot]
theorem tot_le (gs : List (Nat × Int)) (j : Nat) : tot (gs.take j) ≤ tot gs := by
 have := tot_app (gs.take j) (gs.drop j)
 rw [List.take_append_drop] at this; omega
theorem spread_app (a b : List (Nat × Int)) : spread (a ++ b) = spread a ++ spread b := by simp [spread]
theorem spread_split {gs : List (Nat × Int)} {j : Nat} {g : Nat × Int} (h : gs[j]? = some g) : spread gs = spread (gs.take j) ++ (List.replicate g.1 g.2 ++ spread (gs.drop (j + 1))) := by
 have e : gs = gs.take j ++ g :: gs.drop (j + 1) := by
  obtain ⟨hl, hg⟩ := List.getElem?_eq_some_iff.1 h
  rw [← hg, List.getElem_cons_drop, List.take_append_drop]
 conv => lhs; rw [e]
 rw [spread_app]; simp [spread]
theorem spread_at {gs : List (Nat × Int)} {j m : Nat} {g : Nat × Int} (h : gs[j]? = some g) (hm : m < g.1) : (spread gs)[tot (gs.take j) + m]? = some g.2 := by
 rw [spread_split h, List.getElem?_append_right (by rw [spread_len]; omega), spread_len, Nat.add_sub_cancel_left, List.getElem?_append_left (by simpa using hm), List.getElem?_replicate, if_pos hm]
theorem good_get : ∀ {gs : List (Nat × Int)} {j : Nat} {g g' : Nat × Int}, good gs → gs[j]? = some g → gs[j + 1]? = some g' → g.2 ≠ g'.2
 | [], j, g, g', _, h, _ => by simp at h
 | [a], j, g, g', _, _, h => by simp at h
 | a :: b :: l, 0, g, g', hg, h1, h2 => by
  simp at h1 h2
  subst h1 h2
  exact hg.2.1
 | a :: b :: l, j + 1, g, g', hg, h1, h2 => good_get (gs := b :: l) (j := j) hg.2.2 (by simpa using h1) (by simpa using h2)
theorem spread_next {gs : List (Nat × Int)} {j : Nat} {g : Nat × Int} (hg : good gs) (h : gs[j]? = some g) {d : Int} (hd : (spread gs)[tot (gs.take j) + g.1]? = some d) : g.2 ≠ d := by
 rw [spread_split h, List.getElem?_append_right (by rw [spread_len]; omega), spread_len, Nat.add_sub_cancel_left, List.getElem?_append_right (by simp), List.length_replicate, Nat.sub_self] at hd
 cases h2 : gs[j + 1]? with
 | none =>
  rw [List.drop_eq_nil_of_le (by simpa using h2)] at hd
  simp [spread] at hd
 | some g' =>
  have h1 := good_all gs hg g' (List.mem_of_getElem? h2)
  have e : gs.drop (j + 1) = g' :: gs.drop (j + 2) := by
   obtain ⟨hl, hg⟩ := List.getElem?_eq_some_iff.1 h2
   rw [← hg, List.getElem_cons_drop]
  rw [e] at hd
  have : (spread (g' :: gs.drop (j + 2)))[0]? = some g'.2 := by
   have := spread_at (gs := g' :: gs.drop (j + 2)) (j := 0) (m := 0) (g := g') rfl (by omega)
   simpa [tot] using this
  rw [this] at hd
  cases hd
  exact good_get hg h h2
theorem diffs_get : ∀ {r : List Int} {i : Nat} {a b : Int}, r[i]? = some a → r[i + 1]? = some b → (diffs r)[i]? = some (b - a)
 | [], i, a, b, h, _ => by simp at h
 | [x], i, a, b, _, h => by simp at h
 | x :: y :: l, 0, a, b, h1, h2 => by
  simp at h1 h2
  subst h1 h2; rfl
 | x :: y :: l, i + 1, a, b, h1, h2 => by
  show (diffs (y :: l))[i]? = _
  exact diffs_get (by simpa using h1) (by simpa using h2)
theorem runs_tot (r : List Int) : tot (runs (diffs r)) = r.length - 1 := by
 rw [← spread_len, (runs_good (diffs r)).2, diffs_len]
theorem blanks_snoc : ∀ (ws : List Bs) (w : Bs), ws ≠ [] → blanks (ws ++ [w]) = blanks ws ++ 32 :: w
 | [], _, h => absurd rfl h
 | [a], w, _ => by
  show blanks (a :: [w]) = _
  rw [blanks_cons a (by simp)]; rfl
 | a :: b :: l, w, _ => by
  show blanks (a :: (b :: l ++ [w])) = _
  rw [blanks_cons a (by simp), blanks_snoc (b :: l) w (by simp), blanks_cons a (by simp)]
  simp
end Go.Bk
namespace Go.Mw
open Go.Proofs
open Go.Bk
attribute [local go_sem] decide_true beq_self_eq_true bne_self_eq_false
theorem wgs_ne (x : Pg) (j : Nat) : wgs x j ≠ [] := by unfold wgs wpre; simp
theorem wgs_bnd {x : Pg} (h : pageOK x = true) (j : Nat) : (blanks (wgs x j)).length ≤ 425 := by
 have h1 : ∀ k, (blanks (wgs x j)).length ≤ (blanks (wgs x (j + k))).length := by
  intro k
  induction k with
  | zero => exact Nat.le_refl _
  | succ k ih =>
   refine Nat.le_trans ih ?_
   cases hg : (runs (diffs x.reads))[j + k]? with
   | none =>
    have : wgs x (j + k + 1) = wgs x (j + k) := by
     unfold wgs
     rw [List.take_add_one, hg]; simp
    rw [show j + (k + 1) = j + k + 1 by omega, this]
    exact Nat.le_refl _
   | some g =>
    rw [show j + (k + 1) = j + k + 1 by omega, wgs_step hg, blanks_snoc _ _ (wgs_ne x _), List.length_append]
    omega
 have h2 := line_bnd h
 have h3 : wgs x (j + (runs (diffs x.reads)).length) = wordsG x := by
  rw [← wgs_all x]
  unfold wgs
  rw [List.take_of_length_le (by omega), List.take_length]
 have := h1 (runs (diffs x.reads)).length
 rw [h3] at this
 unfold pageLine at h2
 omega
set_option maxRecDepth 20000 in
set_option maxHeartbeats 16000000 in
theorem c_rline (x : Pg) (hx : pageOK x = true) : Contract Tryz.prog 85 [pgV x] (.str (pageLine x ++ [10])) [] := by
 obtain ⟨ho1, ho2, ho3, ho4⟩ := pageOK_iff.1 hx
 have hh := inD_iff.1 ho1
 have hrt := runs_tot x.reads
 have hsp := (runs_good (diffs x.reads)).2
 have hgd := (runs_good (diffs x.reads)).1
 have hrb : ∀ (i : Nat) (a : Int), x.reads[i]? = some a → 0 ≤ a ∧ a ≤ 1073741824 := fun i a h => inD_iff.1 (List.all_eq_true.1 ho3 a (List.mem_of_getElem? h))
 have hwz := wgs_zero x
 have htz : tot [] = 0 := rfl
 refine con_of follows_mixed Tryz.func85 rfl (by simp only [List.length_cons, List.length_nil, Tryz.ntmps85]; omega) V146 rfl ?_
 refine Exec.reg ?_
 iterate 2 (refine Run.o ?_)
 refine Run.nil (Exec.reg ?_)
 iterate 2 (refine Run.o ?_)
 refine Run.c1 (c_TextI x.house hh.1 (by omega)) V139 V139 ?_
 refine Run.o ?_
 refine Run.nil (Exec.assocS (Exec.reg ?_))
 iterate 4 (refine Run.o ?_)
 refine Run.nil ?_
 refine Exec.joinA [1, 3] [1] (fun (o : Unit) => [.slot 3 (.str (blanks (wgs x 0)))]) (fun (o : Unit) => True) (fun o => by simp only [go_sem] <;> rfl) ?_ (fun o hj => ?_)
 ·skip
  refine Exec.cnd V139 (fun hb13 => ?_) (fun hb13 => ?_)
  ·skip
   obtain ⟨r, rt, hz2⟩ : ∃ r t, x.reads = r :: t := by
    cases h : x.reads with
    | nil => rw [h] at hb13; cases hb13
    | cons r t => exact ⟨r, t, rfl⟩
   have hwp : wgs x 0 = [txt x.house.toNat, txt r.toNat] := by rw [hwz]; unfold wpre; rw [hz2]
   have hbw : blanks (wgs x 0) = txt x.house.toNat ++ 32 :: txt r.toNat := by rw [hwp]; rfl
   have hr1 : x.reads[0]? = some r := by rw [hz2]; rfl
   have hr0 := hrb 0 r hr1
   have tl1 := txt_len (n := x.house.toNat) (k := 20) (by omega) (by omega)
   have tl2 := txt_len (n := r.toNat) (k := 20) (by omega) (by omega)
   refine Exec.reg1 ?_
   have X := (Fx.mk hr1).a hbw
   refine Run.o1 V113 ?_
   refine Run.o1 V49 ?_
   iterate 2 (refine Run.o1 V113 ?_)
   refine Run.o1 V58 ?_
   refine Run.o1 V113 ?_
   refine Run.c1 (c_TextI r hr0.1 (by omega)) V113 V113 ?_
   refine Run.o1 V49 ?_
   refine Run.o1 V113 ?_
   refine Run.nil ?_
   refine JoinK.nrm (()) ?_ ?_
   ·trivial
   ·exact Ghost.kp [1, 3] [1] (by simp only [go_sem, X.h, Int.toNat_zero] <;> first | ((repeat' (first | with_reducible_and_instances rfl | refine st_eq ?_ ?_ ?_ | refine ret_eq ?_ | refine tup_eq ?_ | refine tm_eq ?_ ?_ | refine arr_eq ?_ | refine cells_eq ?_ | refine val_eq ?_ | refine ls_eq ?_ ?_ | refine own_eq ?_ ?_ | refine sl_eq ?_ | refine b_eq ?_ | (refine i_eq ?_; omega))); all_goals (simp; done)) | rfl)
  ·skip
   have hz1 : x.reads = [] := by
    cases h : x.reads with
    | nil => rfl
    | cons r t => rw [h] at hb13; simp at hb13
   have hwp : wgs x 0 = [txt x.house.toNat] := by rw [hwz]; unfold wpre; rw [hz1]
   have hbw : blanks (wgs x 0) = txt x.house.toNat := by rw [hwp]; rfl
   refine JoinK.nrm (()) ?_ ?_
   ·trivial
   ·exact Ghost.kp [1, 3] [1] (by simp only [go_sem, hbw] <;> first | exact eqz | rfl)
 ·skip
  refine Exec.assocS (Exec.reg ?_)
  refine Run.o ?_
  refine Run.nil (Exec.blk ?_)
  have X := Fx.mk htz
  refine Exec.forA [1, 3, 4] [1] ((runs (diffs x.reads)).length) (fun k => [.slot 3 (.str (blanks (wgs x k))), .slot 4 (.int (1 + (tot ((runs (diffs x.reads)).take k) : Int)))]) (fun _ => True) (fun k => by simp only [go_sem] <;> rfl) V93 ?_ (fun k hk hX => ?_)
  ·trivial
  ·skip
   refine Exec.assocS (Exec.reg ?_)
   iterate 5 (refine Run.o ?_)
   refine Run.nil ?_
   refine Exec.cndS V139 (fun hb26 => ?_) (fun hb26 => ?_)
   ·skip
    have hk : k < (runs (diffs x.reads)).length := by
     have h1 := of_decide_eq_true hb26
     rcases Nat.lt_or_ge k (runs (diffs x.reads)).length with h | h
     ·exact h
     ·rw [List.take_of_length_le h] at h1; omega
    obtain ⟨g, hg⟩ : ∃ g, (runs (diffs x.reads))[k]? = some g := ⟨_, List.getElem?_eq_getElem hk⟩
    have hg1 := good_all _ hgd g (List.mem_of_getElem? hg)
    have hts := tot_step hg
    have hle := tot_le (runs (diffs x.reads)) (k + 1)
    obtain ⟨p, hp⟩ : ∃ p, 1 + tot ((runs (diffs x.reads)).take k) = p := ⟨_, rfl⟩
    have hp2 : 1 + tot ((runs (diffs x.reads)).take (k + 1)) = p + g.1 := by omega
    have hpr := page_runs hx (r := x.reads.headD 0) (t := x.reads.tail) (by cases h : x.reads with | nil => rw [h] at hg; simp [diffs, runs] at hg | cons r t => rfl)
    have hgb := hpr.by0 g (List.mem_of_getElem? hg)
    have hat : ∀ m, m < g.1 → ∃ a b, x.reads[p + m - 1]? = some a ∧ x.reads[p + m]? = some b ∧ b - a = g.2 := fun m hm => by
     have h1 := spread_at hg hm
     rw [hsp] at h1
     obtain ⟨a, ha⟩ : ∃ a, x.reads[p + m - 1]? = some a := ⟨_, List.getElem?_eq_getElem (by omega)⟩
     obtain ⟨b, hb⟩ : ∃ b, x.reads[p + m]? = some b := ⟨_, List.getElem?_eq_getElem (by omega)⟩
     have h2 := diffs_get ha (by rw [show p + m - 1 + 1 = p + m by omega]; exact hb)
     rw [show p + m - 1 = tot ((runs (diffs x.reads)).take k) + m by omega, h1] at h2
     exact ⟨a, b, ha, hb, (Option.some.inj h2).symm⟩
    obtain ⟨a0, b0, ha0, hb0, hd0⟩ := hat 0 (by omega)
    rw [Nat.add_zero] at ha0 hb0
    have ra0 := hrb _ _ ha0
    have rb0 := hrb _ _ hb0
    have tp : ((p : Int) - 1).toNat = p - 1 := by omega
    have hwb := wgs_bnd hx k
    have hwb2 := wgs_bnd hx (k + 1)
    rw [wgs_step hg, blanks_snoc _ _ (wgs_ne x k)] at hwb2
    obtain ⟨w, hw⟩ : ∃ w : Bs, (if g.1 = 1 then ([] : Bs) else txt g.1 ++ [120]) = w := ⟨_, rfl⟩
    have hgw : gword g = w ++ txt g.2.toNat := by rw [← hw]; unfold gword; split <;> simp
    have hst : blanks (wgs x (k + 1)) = blanks (wgs x k) ++ 32 :: (w ++ txt g.2.toNat) := by rw [wgs_step hg, blanks_snoc _ _ (wgs_ne x k), hgw]
    rw [hgw] at hwb2
    rw [List.length_append, List.length_cons, List.length_append] at hwb2
    have hpI : (1 : Int) + ((tot ((runs (diffs x.reads)).take k) : Nat) : Int) = (p : Int) := by omega
    have hp2I : (1 : Int) + ((tot ((runs (diffs x.reads)).take (k + 1)) : Nat) : Int) = (p : Int) + (g.1 : Int) := by omega
    refine Exec.skipS (Exec.blk1 ?_)
    refine Exec.opk 16 ?_
    have X := ((((((Fx.mk hpI).a hp2I).a hst).a ha0).a hb0).a tp).a hd0
    iterate 3 (refine OpenK.o1 V136 ?_)
    refine OpenK.o1 V72 ?_
    iterate 4 (refine OpenK.o1 V136 ?_)
    refine OpenK.o1 V55 ?_
    refine OpenK.o1 V72 ?_
    refine OpenK.o1 V136 ?_
    refine OpenK.o1 V55 ?_
    iterate 2 (refine OpenK.o1 V136 ?_)
    refine OpenK.nil (OpenE.fin V143 V143 ?_)
    refine Exec.joinA [1, 3, 4, 5, 6] [1] (fun (o : Unit) => [.slot 4 (.int ((p : Int) + (g.1 : Int))), .slot 6 (.int g.1)]) (fun (o : Unit) => True) (fun o => by simp only [go_sem] <;> rfl) ?_ (fun o hj => ?_)
    ·skip
     refine Exec.blk1 ?_
     refine Exec.forA [1, 3, 4, 5, 6] [1] (g.1) (fun m => [.slot 4 (.int ((p : Int) + (m : Int))), .slot 6 (.int m)]) (fun _ => True) (fun m => by simp only [go_sem] <;> rfl) (by simp only [go_sem, X.h, Int.natCast_zero, Int.add_zero] <;> rfl) ?_ (fun m hm Xm => ?_)
     ·trivial
     ·skip
      refine Exec.assocS ?_
      by_cases hm : m < g.1
      ·skip
       obtain ⟨a, b, ha, hb, hd⟩ := hat m hm
       have ra := hrb _ _ ha
       have rb := hrb _ _ hb
       have hlt : p + m < x.reads.length := (List.getElem?_eq_some_iff.1 hb).1
       have d1 : decide (((p : Int) + (m : Int)) < (x.reads.length : Int)) = true := decide_eq_true (by omega)
       have t1 : ((p : Int) + (m : Int)).toNat = p + m := by omega
       have t2 : ((p : Int) + (m : Int) - 1).toNat = p + m - 1 := by omega
       refine Exec.opk 23 ?_
       have X := (((((X.a d1).a t1).a t2).a ha).a hb).a hd
       iterate 6 (refine OpenK.o1 V136 ?_)
       iterate 3 (refine OpenK.y1 V136 ?_)
       refine OpenK.y1 V72 ?_
       iterate 4 (refine OpenK.y1 V136 ?_)
       refine OpenK.y1 V55 ?_
       refine OpenK.y1 V72 ?_
       refine OpenK.y1 V136 ?_
       refine OpenK.y1 V55 ?_
       iterate 2 (refine OpenK.y1 V136 ?_)
       refine OpenK.o1 V136 ?_
       refine OpenK.nil (OpenE.finT V146 V146 V146 ?_)
       refine Exec.cndS V136 (fun hb59 => ?_) (fun hb59 => ?_)
       ·skip
        refine Exec.skipS (Exec.blk1 (Exec.reg ?_))
        refine Run.o1 V136 ?_
        refine Run.o1 V55 ?_
        refine Run.o1 V136 ?_
        refine Run.nil (Exec.reg1 ?_)
        refine Run.o1 V136 ?_
        refine Run.o1 V55 ?_
        refine Run.o1 V136 ?_
        refine Run.nil (Blk1K.nrm ?_)
        refine ForK.nxt ?_ ?_ ?_
        ·omega
        ·exact Ghost.kp [1, 3, 4, 5, 6] [1] V108
        ·trivial
       ·exact absurd hb59 (by simp)
      ·skip
       by_cases hq : p + g.1 < x.reads.length
       ·skip
        have hme : m = g.1 := by omega
        subst hme
        have hlt2 : p + g.1 < x.reads.length := hq
        obtain ⟨a, ha⟩ : ∃ a, x.reads[p + g.1 - 1]? = some a := ⟨_, List.getElem?_eq_getElem (by omega)⟩
        obtain ⟨b, hb⟩ : ∃ b, x.reads[p + g.1]? = some b := ⟨_, List.getElem?_eq_getElem (by omega)⟩
        have hdd := diffs_get ha (by rw [show p + g.1 - 1 + 1 = p + g.1 by omega]; exact hb)
        rw [show p + g.1 - 1 = tot ((runs (diffs x.reads)).take k) + g.1 by omega] at hdd
        have hne := spread_next hgd hg (d := b - a) (by rw [hsp]; exact hdd)
        have ra := hrb _ _ ha
        have rb := hrb _ _ hb
        have d1 : decide (((p : Int) + (g.1 : Int)) < (x.reads.length : Int)) = true := decide_eq_true (by omega)
        have t1 : ((p : Int) + (g.1 : Int)).toNat = p + g.1 := by omega
        have t2 : ((p : Int) + (g.1 : Int) - 1).toNat = p + g.1 - 1 := by omega
        have hnf : (b - a == g.2) = false := beq_eq_false_iff_ne.2 (fun h => hne h.symm)
        refine Exec.opk 23 ?_
        have X := (((((X.a d1).a t1).a t2).a ha).a hb).a hnf
        iterate 6 (refine OpenK.o1 V136 ?_)
        iterate 3 (refine OpenK.y1 V136 ?_)
        refine OpenK.y1 V72 ?_
        iterate 4 (refine OpenK.y1 V136 ?_)
        refine OpenK.y1 V55 ?_
        refine OpenK.y1 V72 ?_
        refine OpenK.y1 V136 ?_
        refine OpenK.y1 V55 ?_
        iterate 2 (refine OpenK.y1 V136 ?_)
        refine OpenK.o1 V136 ?_
        refine OpenK.nil (OpenE.finT V146 V146 V146 ?_)
        refine Exec.cndS V136 (fun hb59 => ?_) (fun hb59 => ?_)
        ·exact absurd hb59 (by simp)
        ·skip
         refine Exec.exitS (ForK.ext (Blk1K.hit ?_))
         refine JoinK.nrm (()) ?_ ?_
         ·trivial
         ·exact Ghost.kp [1, 3, 4, 5, 6] [1] V108
       ·skip
        have hme : m = g.1 := by omega
        subst hme
        have d1 : decide (((p : Int) + (g.1 : Int)) < (x.reads.length : Int)) = false := decide_eq_false (by omega)
        refine Exec.opk 23 ?_
        have X := X.a d1
        iterate 6 (refine OpenK.o1 V136 ?_)
        iterate 14 (refine OpenK.s ?_)
        refine OpenK.o1 V136 ?_
        refine OpenK.nil (OpenE.finT V146 V146 V146 ?_)
        refine Exec.cndS V136 (fun hb59 => ?_) (fun hb59 => ?_)
        ·exact absurd hb59 (by simp)
        ·skip
         refine Exec.exitS (ForK.ext (Blk1K.hit ?_))
         refine JoinK.nrm (()) ?_ ?_
         ·trivial
         ·exact Ghost.kp [1, 3, 4, 5, 6] [1] V108
    refine Exec.reg ?_
    refine Run.o1 V136 ?_
    refine Run.o1 V55 ?_
    refine Run.o1 V136 ?_
    refine Run.nil (Exec.assocS (Exec.reg ?_))
    iterate 2 (refine Run.o1 V136 ?_)
    refine Run.nil ?_
    refine Exec.joinA [1, 3, 4, 5] [1] (fun (o : Unit) => [.slot 3 (.str (blanks (wgs x k) ++ 32 :: w))]) (fun (o : Unit) => True) (fun o => by simp only [go_sem] <;> rfl) ?_ (fun o hj => ?_)
    ·skip
     refine Exec.cnd V136 (fun hb67 => ?_) (fun hb67 => ?_)
     ·skip
      have hgn : ¬ g.1 = 1 := by have := of_decide_eq_true hb67; omega
      have tl1 := txt_len (n := g.1) (k := 20) (by omega) (by omega)
      have hif : w = txt g.1 ++ [120] := by rw [← hw, if_neg hgn]
      refine Exec.reg1 ?_
      have X := X.a hif
      iterate 2 (refine Run.o1 V136 ?_)
      refine Run.c1 (c_Text g.1 (by omega)) V136 V136 ?_
      iterate 2 (refine Run.o1 V55 ?_)
      refine Run.o1 V136 ?_
      refine Run.nil ?_
      refine JoinK.nrm (()) ?_ ?_
      ·trivial
      ·exact Ghost.kp [1, 3, 4, 5] [1] (by simp only [go_sem, X.h] <;> first | ((repeat' (first | with_reducible_and_instances rfl | refine st_eq ?_ ?_ ?_ | refine ret_eq ?_ | refine tup_eq ?_ | refine tm_eq ?_ ?_ | refine arr_eq ?_ | refine cells_eq ?_ | refine val_eq ?_ | refine ls_eq ?_ ?_ | refine own_eq ?_ ?_ | refine sl_eq ?_ | refine b_eq ?_ | (refine i_eq ?_; omega))); all_goals (simp; done)) | rfl)
     ·skip
      have hgn : g.1 = 1 := by have := of_decide_eq_false hb67; omega
      have hif : w = [] := by rw [← hw, if_pos hgn]
      refine JoinK.nrm (()) ?_ ?_
      ·trivial
      ·exact Ghost.kp [1, 3, 4, 5] [1] (by simp only [go_sem, hpI, hp2I, hst, ha0, hb0, tp, hd0, hif] <;> first | ((repeat' (first | with_reducible_and_instances rfl | refine st_eq ?_ ?_ ?_ | refine ret_eq ?_ | refine tup_eq ?_ | refine tm_eq ?_ ?_ | refine arr_eq ?_ | refine cells_eq ?_ | refine val_eq ?_ | refine ls_eq ?_ ?_ | refine own_eq ?_ ?_ | refine sl_eq ?_ | refine b_eq ?_ | (refine i_eq ?_; omega))); all_goals (simp; done)) | rfl)
    ·skip
     refine Exec.reg1 ?_
     iterate 2 (refine Run.o1 V136 ?_)
     refine Run.c1 (c_TextI g.2 hgb.1 (by omega)) V136 V136 ?_
     refine Run.o1 V55 ?_
     refine Run.o1 V136 ?_
     refine Run.nil (Blk1K.nrm ?_)
     refine ForK.nxt ?_ ?_ ?_
     ·omega
     ·exact Ghost.kp [1, 3, 4] [1] V16
     ·trivial
   ·skip
    have hke : (runs (diffs x.reads)).length ≤ k := by
     have h1 := of_decide_eq_false hb26
     rcases Nat.lt_or_ge k (runs (diffs x.reads)).length with h | h
     ·obtain ⟨g, hg⟩ : ∃ g, (runs (diffs x.reads))[k]? = some g := ⟨_, List.getElem?_eq_getElem h⟩
      have := tot_step hg
      have := good_all _ hgd g (List.mem_of_getElem? hg)
      have := tot_le (runs (diffs x.reads)) (k + 1)
      omega
     ·exact h
    have hwa : blanks (wgs x k) = pageLine x := by
     have : wgs x k = wordsG x := by rw [← wgs_all x]; unfold wgs; rw [List.take_of_length_le hke, List.take_length]
     rw [this]; rfl
    have hlb := line_bnd hx
    refine Exec.exitS (ForK.ext (BlkK.hit (Exec.reg ?_)))
    have X := Fx.mk hwa
    refine Run.o1 V136 ?_
    refine Run.o1 V55 ?_
    refine Run.o1 V136 ?_
    refine Run.nil ?_
    exact Ends.fin [] (rs := [.tmp 2]) rfl V136 V107

set_option maxRecDepth 20000 in
set_option maxHeartbeats 8000000 in
theorem c_ref_WritePages (l : List Pg) (hl : l.length ≤ 1000) (hz : ∀ x ∈ l, x.reads.length ≤ 1000) : Contract Tryz.prog 31 [.leaf (.d (pgsD l))] (strE (wPages l) (pagesE l)) [] := by
 refine con_of follows_mixed Tryz.func31 rfl (by simp only [List.length_cons, List.length_nil, Tryz.ntmps31]; omega) V146 rfl ?_
 refine Exec.reg ?_
 iterate 2 (refine Run.o ?_)
 refine Run.nil (Exec.reg ?_)
 refine Run.o ?_
 refine Run.c1 (c_ref_Pages l hl hz) V139 V139 ?_
 refine Run.o ?_
 refine Run.nil (Exec.assocS (Exec.reg ?_))
 iterate 2 (refine Run.o ?_)
 refine Run.nil ?_
 refine Exec.cndS V139 (fun hb10 => ?_) (fun hb10 => ?_)
 ·skip
  have hne : pagesE l ≠ 0 := by simpa using hb10
  have hr : wPages l = [] := if_neg hne
  refine Exec.assocS (Exec.reg ?_)
  have X := Fx.mk hr
  iterate 3 (refine Run.o1 V128 ?_)
  refine Run.nil (Exec.retS ?_)
  exact Ends.fin [] (rs := [.tmp 2, .tmp 3]) rfl V128 V102
 ·skip
  have he0 : pagesE l = 0 := by simpa using hb10
  have hr : wPages l = pagesB l := if_pos he0
  obtain ⟨h32, hok, _⟩ := errB_ok he0
  have hz0 : pagesB [] = [] := rfl
  refine Exec.skipS (Exec.reg ?_)
  refine Run.o ?_
  refine Run.nil (Exec.assocS (Exec.reg ?_))
  refine Run.o ?_
  refine Run.nil (Exec.blk ?_)
  have X := Fx.mk hz0
  refine Exec.forA [0, 5, 6] [] (l.length) (fun k => [.slot 5 (.str (pagesB (l.take k))), .slot 6 (.int k)]) (fun _ => True) (fun k => by simp only [go_sem] <;> rfl) V93 ?_ (fun k hk hX => ?_)
  ·trivial
  ·skip
   refine Exec.assocS (Exec.reg ?_)
   iterate 4 (refine Run.o ?_)
   refine Run.nil ?_
   refine Exec.cndS V139 (fun hb15 => ?_) (fun hb15 => ?_)
   ·skip
    have hlt := lt_of_dec hb15
    obtain ⟨x, hx⟩ := elem_of hb15
    have hxok := all_at hok hx
    have hbk := pagesB_bnd _ (all_take k hok)
    have hbl : (l.take k).length ≤ 32 := by rw [List.length_take]; omega
    have hlb := line_bnd hxok
    have hps := page_step hx
    refine Exec.skipS (Exec.blk (Exec.reg1 ?_))
    have X := (Fx.mk hx).a hps
    iterate 3 (refine Run.o1 V136 ?_)
    refine Run.o1 V72 ?_
    refine Run.o1 V136 ?_
    refine Run.c1 (c_rline x hxok) V136 V136 ?_
    refine Run.o1 V55 ?_
    refine Run.o1 V136 ?_
    refine Run.nil (BlkK.nrm (Exec.reg1 ?_))
    refine Run.o1 V136 ?_
    refine Run.o1 V55 ?_
    refine Run.o1 V136 ?_
    refine Run.nil ?_
    refine ForK.nxt ?_ ?_ ?_
    ·omega
    ·exact Ghost.kp [0, 5, 6] [] V16
    ·trivial
   ·skip
    have hke : l.length ≤ k := ge_of_dec hb15
    have htk : l.take k = l := List.take_of_length_le hke
    refine Exec.exitS (ForK.ext (BlkK.hit (Exec.reg ?_)))
    have X := ((Fx.mk htk).a hr).a he0
    iterate 3 (refine Run.o1 V128 ?_)
    refine Run.nil ?_
    exact Ends.fin [] (rs := [.tmp 2, .tmp 3]) rfl V128 V102

end Go.Mw
namespace Go.Bk
def rdW : List Bs → Nat → List Int
 | _, 0 => []
 | [], _ + 1 => []
 | r :: rest, j + 1 => (rest.take j).foldl wordL [(valM r : Int)]
theorem rdW_zero (ts : List Bs) : rdW ts 0 = [] := by cases ts <;> rfl
theorem rdW_one {ts : List Bs} {r : Bs} (h : ts[0]? = some r) : rdW ts 1 = [(valM r : Int)] := by
 cases ts with
 | nil => simp at h
 | cons a ts =>
  have : a = r := by simpa using h
  subst this; rfl
theorem rdW_step {ts : List Bs} {j : Nat} {w : Bs} (hj : 1 ≤ j) (h : ts[j]? = some w) : rdW ts (j + 1) = appN (byL w) (min (manyL w) (17 - (rdW ts j).length)) (rdW ts j) := by
 cases ts with
 | nil => simp at h
 | cons a ts =>
  obtain ⟨i, rfl⟩ : ∃ i, j = i + 1 := ⟨j - 1, by omega⟩
  have h' : ts[i]? = some w := by simpa using h
  show (ts.take (i + 1)).foldl wordL [(valM a : Int)] = _
  rw [List.take_add_one, h', List.foldl_append]
  rfl
theorem pageL_eq {line h : Bs} {ts : List Bs} (hc : cutB 32 line = h :: ts) : pageL line = ⟨valM h, rdW ts ts.length⟩ := by
 unfold pageL
 rw [hc]
 cases ts with
 | nil => rfl
 | cons r rest =>
  show (⟨_, _⟩ : Pg) = ⟨_, (rest.take rest.length).foldl wordL [(valM r : Int)]⟩
  rw [List.take_length]
def boundL (r : List Int) : Prop := r ≠ [] ∧ r.length ≤ 17 ∧ 0 ≤ lastD r ∧ lastD r ≤ 1099511627776 * r.length
theorem boundL_app {r : List Int} {d : Int} (h : boundL r) (hd : 0 ≤ d ∧ d ≤ 1099511627776) : ∀ (j : Nat), r.length + j ≤ 17 → boundL (appN d j r)
 | 0, _ => h
 | j + 1, hj => by
  obtain ⟨h1, h2, h3, h4⟩ := boundL_app h hd j (by omega)
  rw [appN_succ]
  refine ⟨by simp, ?_, ?_, ?_⟩
  ·rw [List.length_append, List.length_singleton, appN_len]; omega
  ·rw [lastD_snoc]; omega
  ·rw [lastD_snoc, List.length_append, List.length_singleton, appN_len]
   rw [appN_len] at h4
   push_cast at h4 ⊢
   omega
theorem valM_40 (l : Bs) : valM l ≤ 1099511627776 := valM_le l
theorem byL_bnd (w : Bs) : 0 ≤ (byL w : Int) ∧ (byL w : Int) ≤ 1099511627776 := by
 have := valM_40 ((cutB 120 w).getLastD [])
 unfold byL; omega
theorem rdW_bnd {ts : List Bs} : ∀ (j : Nat), 1 ≤ j → j ≤ ts.length → boundL (rdW ts j)
 | 0, h, _ => by omega
 | 1, _, h => by
  have h0 : 0 < ts.length := by omega
  obtain ⟨r, hr⟩ : ∃ r, ts[0]? = some r := ⟨_, List.getElem?_eq_getElem h0⟩
  rw [rdW_one hr]
  have := valM_40 r
  exact ⟨by simp, by simp, by simp [lastD], by simp [lastD]; omega⟩
 | j + 2, _, h => by
  have hj : j + 1 < ts.length := by omega
  obtain ⟨w, hw⟩ : ∃ w, ts[j + 1]? = some w := ⟨_, List.getElem?_eq_getElem hj⟩
  have ih := rdW_bnd (ts := ts) (j + 1) (by omega) (by omega)
  rw [rdW_step (by omega) hw]
  exact boundL_app ih (byL_bnd w) _ (by have := ih.2.1; omega)
theorem rdW_len {ts : List Bs} {j : Nat} (h : j ≤ ts.length) : (rdW ts j).length ≤ 17 := by
 cases j with
 | zero => rw [rdW_zero]; simp
 | succ j => exact (rdW_bnd (j + 1) (by omega) h).2.1
theorem cut_cons (c : UInt8) (s : Bs) : ∃ h ts, cutB c s = h :: ts := by
 cases h : cutB c s with
 | nil => exact absurd h (cutB_ne c s)
 | cons a l => exact ⟨a, l, rfl⟩
theorem byL_at {w x : Bs} (h : (cutB 120 w)[(cutB 120 w).length - 1]? = some x) : byL w = valM x := by
 unfold byL
 rw [List.getLastD_eq_getLast?, List.getLast?_eq_getElem?, h]; rfl
theorem manyL_two {w a : Bs} (h1 : 1 < (cutB 120 w).length) (h : (cutB 120 w)[0]? = some a) : manyL w = valM a := by
 unfold manyL
 rw [if_pos h1, List.headD_eq_head?_getD, List.head?_eq_getElem?, h]; rfl
theorem manyL_one {w : Bs} (h1 : ¬ 1 < (cutB 120 w).length) : manyL w = 1 := if_neg h1
theorem loose_len (text : Bs) : (looseG text).length = min 33 ((cutB 10 text).length - 1) := by
 unfold looseG
 rw [List.length_map, List.length_take, List.length_dropLast]
theorem loose_at {text line : Bs} {k : Nat} (hk : k < (looseG text).length) (h : (cutB 10 text)[k]? = some line) : (looseG text)[k]? = some (pageL line) := by
 rw [loose_len] at hk
 unfold looseG
 rw [List.getElem?_map, List.getElem?_take, if_pos (by omega), List.getElem?_dropLast, if_pos (by omega), h]; rfl
theorem pageL_len (line : Bs) : (pageL line).reads.length ≤ 17 := by
 obtain ⟨h, ts, hc⟩ := cut_cons 32 line
 rw [pageL_eq hc]
 exact rdW_len (Nat.le_refl _)
theorem loose_reads {text : Bs} : ∀ x ∈ looseG text, x.reads.length ≤ 1000 := fun x hx => by
 unfold looseG at hx
 obtain ⟨line, _, rfl⟩ := List.mem_map.1 hx
 have := pageL_len line
 omega
end Go.Bk
namespace Go.Mw
open Go.Proofs
open Go.Bk
attribute [local go_sem] decide_true beq_self_eq_true bne_self_eq_false
set_option maxRecDepth 20000 in
set_option maxHeartbeats 16000000 in
theorem c_ref_ReadPages (text : Bs) (hl : text.length ≤ 100000000) : Contract Tryz.prog 32 [.str text] (rgE (readG text)) [] := by
 have hcn0 := cut_cnt 10 text
 have hln := loose_len text
 have hta2 : List.take (looseG text).length (List.map encPg (looseG text)) = List.map encPg (looseG text) := List.take_of_length_le (by simp)
 refine con_of follows_mixed Tryz.func32 rfl (by simp only [List.length_cons, List.length_nil, Tryz.ntmps32]; omega) V146 rfl ?_
 refine Exec.reg ?_
 iterate 2 (refine Run.o ?_)
 refine Run.nil (Exec.reg ?_)
 refine Run.o ?_
 refine Run.c1 (c_rCut text 10 (by omega)) V139 V139 ?_
 refine Run.o ?_
 refine Run.nil (Exec.reg ?_)
 refine Run.o ?_
 refine Run.nil (Exec.assocS (Exec.reg ?_))
 refine Run.nilo 5 1000 31 2 V139 V139 (by omega) (by omega) V139 ?_
 refine Run.o ?_
 refine Run.nil ?_
 refine Exec.joinA [0, 5] [1000] (fun (o : Unit) => [.slot 5 (.leaf (.own 1000 0 (looseG text).length (looseG text).length)), .obj 1000 (.arr 31 2 ((looseG text).map encPg))]) (fun (o : Unit) => True) (fun o => by simp only [go_sem] <;> rfl) ?_ (fun o hj => ?_)
 ·skip
  refine Exec.blk1 ?_
  refine Exec.forA [0, 4, 5, 6] [1000] ((looseG text).length) (fun k => [.slot 5 (.leaf (.own 1000 0 ((looseG text).take k).length ((looseG text).take k).length)), .slot 6 (.int k), .obj 1000 (.arr 31 2 (((looseG text).take k).map encPg))]) (fun _ => True) (fun k => by simp only [go_sem] <;> rfl) (by simp only [go_sem, Int.natCast_zero, List.take_zero, List.map_nil, List.length_nil] <;> rfl) ?_ (fun k hk hX => ?_)
  ·trivial
  ·skip
   refine Exec.assocS ?_
   by_cases hk : k < (looseG text).length
   ·skip
    have hlt0 : k < (looseG text).length := hk
    have hln := loose_len text
    obtain ⟨line, hx⟩ : ∃ line, (cutB 10 text)[k]? = some line := ⟨_, List.getElem?_eq_getElem (by omega)⟩
    have hlk := loose_at hlt0 hx
    have hlw := cut_len 10 text line (List.mem_of_getElem? hx)
    obtain ⟨h, ts, hc⟩ := cut_cons 32 line
    have hpe := pageL_eq hc
    have hcw : ∀ w ∈ h :: ts, w.length ≤ line.length := fun w hw => cut_len 32 line w (by rw [hc]; exact hw)
    have hwh := hcw h (by simp)
    have hcn := cut_cnt 32 line
    rw [hc, List.length_cons] at hcn
    have hvh := valM_40 h
    have d1 : decide ((k : Int) + 1 < ((cutB 10 text).length : Int)) = true := decide_eq_true (by omega)
    have d2 : decide ((k : Int) ≤ 32) = true := decide_eq_true (by omega)
    have hw0 := rdW_zero ts
    have hts := take_snoc hlk
    have hrl : (rdW ts ts.length).length ≤ 17 := rdW_len (Nat.le_refl _)
    have hc0 : (cutB 32 line)[0]? = some h := by rw [hc]; rfl
    have hcl : (cutB 32 line).length = ts.length + 1 := by rw [hc]; rfl
    refine Exec.reg ?_
    have X := ((((Fx.mk d1).a d2).a hx).a hc0).a hcl
    refine Run.o1 V113 ?_
    refine Run.o1 V49 ?_
    iterate 4 (refine Run.o1 V113 ?_)
    iterate 2 (refine Run.y1 V113 ?_)
    refine Run.o1 V113 ?_
    refine Run.nil ?_
    refine Exec.cndS V113 (fun hb26 => ?_) (fun hb26 => ?_)
    ·skip
     refine Exec.skipS (Exec.blk (Exec.reg ?_))
     iterate 2 (refine Run.o1 V113 ?_)
     refine Run.o1 V58 ?_
     refine Run.o1 V113 ?_
     refine Run.c1 (c_rCut line 32 (by omega)) V113 V113 ?_
     refine Run.o1 V113 ?_
     refine Run.nil (Exec.reg ?_)
     refine Run.o1 V113 ?_
     refine Run.o1 V58 ?_
     refine Run.o1 V113 ?_
     refine Run.c1 (c_value h (by omega)) V113 V113 ?_
     iterate 3 (refine Run.o1 V113 ?_)
     refine Run.nil (Exec.assocS (Exec.reg ?_))
     refine Run.nilc 8 1 1001 3 1 V139 rfl V139 (by omega) (by omega) V139 ?_
     refine Run.o1 V113 ?_
     refine Run.nil (Exec.blk ?_)
     have X := X.a hw0
     refine Exec.forA [0, 4, 5, 6, 7, 8, 9] [8, 1000, 1001] (ts.length) (fun j => [.slot 9 (.int (1 + (j : Int))), .obj 8 (.cells [.d (.i (valM h : Nat)), .own 1001 0 (rdW ts j).length (rdW ts j).length]), .obj 1001 (.arr 3 1 ((rdW ts j).map encInt))]) (fun _ => True) (fun j => by simp only [go_sem] <;> rfl) (by simp only [go_sem, X.h, Int.toNat_zero, Int.natCast_zero, Int.add_zero, List.map_nil, List.length_nil] <;> rfl) ?_ (fun j hj Xj => ?_)
     ·trivial
     ·skip
      refine Exec.assocS (Exec.reg ?_)
      have X := ((((Fx.mk d1).a d2).a hx).a hc0).a hcl
      iterate 4 (refine Run.o1 V113 ?_)
      refine Run.nil ?_
      refine Exec.cndS V113 (fun hb42 => ?_) (fun hb42 => ?_)
      ·skip
       have hjl : j < ts.length := by have := of_decide_eq_true hb42; omega
       refine Exec.skipS (Exec.blk (Exec.assocS ?_))
       by_cases hj0 : j = 0
       ·skip
        obtain ⟨r, hr⟩ : ∃ r, ts[0]? = some r := ⟨_, List.getElem?_eq_getElem (by omega)⟩
        have hwr := hcw r (List.mem_cons_of_mem _ (List.mem_of_getElem? hr))
        have hr1 : rdW ts (j + 1) = [(valM r : Int)] := by rw [hj0]; exact rdW_one hr
        have hwj : rdW ts j = [] := by rw [hj0]; exact hw0
        have hcj : (cutB 32 line)[1]? = some r := by rw [hc]; simpa using hr
        have t1 : ((1 : Int) + (j : Int)).toNat = 1 := by omega
        have e1 : ((1 : Int) + (j : Int) == 1) = true := beq_iff_eq.2 (by omega)
        have hvr := valM_40 r
        refine Exec.reg ?_
        have X := ((((X.a e1).a t1).a hcj).a hr1).a hwj
        iterate 2 (refine Run.o1 V113 ?_)
        refine Run.nil ?_
        refine Exec.cndS V113 (fun hb46 => ?_) (fun hb46 => ?_)
        ·skip
         refine Exec.assocS ?_
         refine Exec.opk 13 ?_
         iterate 4 (refine OpenK.o1 V113 ?_)
         refine OpenK.o1 V58 ?_
         refine OpenK.o1 V113 ?_
         refine OpenK.cal (c_value r (by omega)) V141 V113 V62 (fr0) V113 V139 V139 ?_
         refine OpenK.o1 V113 ?_
         refine OpenK.o1 V3 ?_
         iterate 2 (refine OpenK.o1 V113 ?_)
         refine OpenK.nil (OpenE.fin V143 V143 ?_)
         refine Exec.exitS (BlkK.hit (Exec.reg1 ?_))
         refine Run.o1 V113 ?_
         refine Run.o1 V49 ?_
         refine Run.o1 V113 ?_
         refine Run.nil ?_
         refine ForK.nxt ?_ ?_ ?_
         ·omega
         ·exact Ghost.kp [0, 4, 5, 6, 7, 8, 9] [8, 1000, 1001] V14
         ·trivial
        ·exact absurd hb46 (by simp)
       ·skip
        have e1 : ((1 : Int) + (j : Int) == 1) = false := beq_eq_false_iff_ne.2 (by omega)
        refine Exec.reg ?_
        have X := X.a e1
        iterate 2 (refine Run.o1 V113 ?_)
        refine Run.nil ?_
        refine Exec.cndS V113 (fun hb46 => ?_) (fun hb46 => ?_)
        ·exact absurd hb46 (by simp)
        ·skip
         obtain ⟨w, hw⟩ : ∃ w, ts[j]? = some w := ⟨_, List.getElem?_eq_getElem hjl⟩
         have hwl := hcw w (List.mem_cons_of_mem _ (List.mem_of_getElem? hw))
         have hB := rdW_bnd (ts := ts) j (by omega) (by omega)
         have hB2 := hB.2.1
         have hst := rdW_step (by omega) hw
         have hpn := cut_cnt 120 w
         have hps : 0 < (cutB 120 w).length := List.length_pos_iff.2 (cutB_ne 120 w)
         obtain ⟨p0, hp0⟩ : ∃ p0, (cutB 120 w)[0]? = some p0 := ⟨_, List.getElem?_eq_getElem hps⟩
         obtain ⟨pl, hpl⟩ : ∃ pl, (cutB 120 w)[(cutB 120 w).length - 1]? = some pl := ⟨_, List.getElem?_eq_getElem (Nat.sub_lt hps Nat.one_pos)⟩
         have hl0 := cut_len 120 w p0 (List.mem_of_getElem? hp0)
         have hll := cut_len 120 w pl (List.mem_of_getElem? hpl)
         have hby : valM pl = byL w := (byL_at hpl).symm
         have hcj : (cutB 32 line)[j + 1]? = some w := by rw [hc]; simpa using hw
         have t1 : ((1 : Int) + (j : Int)).toNat = j + 1 := by omega
         have t2 : (((cutB 120 w).length : Int) - 1).toNat = (cutB 120 w).length - 1 := by omega
         have hvm : manyL w ≤ 1099511627776 := by unfold manyL; split; exact valM_40 _; omega
         refine Exec.skipS (Exec.reg ?_)
         have X := (((((X.a t1).a hcj).a t2).a hpl).a hby).a hp0
         iterate 2 (refine Run.o1 V113 ?_)
         refine Run.o1 V58 ?_
         refine Run.o1 V113 ?_
         refine Run.c1 (c_rCut w 120 (by omega)) V113 V113 ?_
         refine Run.o1 V113 ?_
         refine Run.nil (Exec.reg ?_)
         iterate 3 (refine Run.o1 V113 ?_)
         refine Run.o1 V49 ?_
         refine Run.o1 V58 ?_
         refine Run.o1 V113 ?_
         refine Run.c1 (c_value pl (by omega)) V113 V113 ?_
         iterate 2 (refine Run.o1 V113 ?_)
         refine Run.nil (Exec.assocS (Exec.reg ?_))
         iterate 3 (refine Run.o1 V113 ?_)
         refine Run.nil ?_
         refine Exec.joinA [0, 4, 5, 6, 7, 8, 9, 11, 12] [8, 1000, 1001] (fun (o : Unit) => [.slot 11 (.int (manyL w))]) (fun (o : Unit) => True) (fun o => by simp only [go_sem] <;> rfl) ?_ (fun o hj => ?_)
         ·skip
          refine Exec.cnd V113 (fun hb71 => ?_) (fun hb71 => ?_)
          ·skip
           have h1p : 1 < (cutB 120 w).length := by have := of_decide_eq_true hb71; omega
           have hm := manyL_two h1p hp0
           refine Exec.reg1 ?_
           have X := X.a hm
           refine Run.o1 V113 ?_
           refine Run.o1 V58 ?_
           refine Run.o1 V113 ?_
           refine Run.c1 (c_value p0 (by omega)) V113 V113 ?_
           refine Run.o1 V113 ?_
           refine Run.nil ?_
           refine JoinK.nrm (()) ?_ ?_
           ·trivial
           ·exact Ghost.kp [0, 4, 5, 6, 7, 8, 9, 11, 12] [8, 1000, 1001] (by simp only [go_sem, X.h, Int.toNat_zero] <;> first | exact eqz | rfl)
          ·skip
           have hm : ((manyL w : Nat) : Int) = 1 := by rw [manyL_one (by have := of_decide_eq_false hb71; omega)]; rfl
           refine JoinK.nrm (()) ?_ ?_
           ·trivial
           ·exact Ghost.kp [0, 4, 5, 6, 7, 8, 9, 11, 12] [8, 1000, 1001] (by simp only [go_sem, d1, d2, hx, hc0, hcl, Int.toNat_zero, e1, t1, hcj, t2, hpl, hby, hp0, hm] <;> first | exact eqz | rfl)
         ·skip
          refine Exec.reg ?_
          refine Run.o1 V113 ?_
          refine Run.nil (Exec.blk1 ?_)
          refine Exec.forA [0, 4, 5, 6, 7, 8, 9, 11, 12, 13] [8, 1000, 1001] (min (manyL w) (17 - (rdW ts j).length)) (fun i => [.slot 13 (.int i), .obj 8 (.cells [.d (.i (valM h : Nat)), .own 1001 0 (appN (byL w) i (rdW ts j)).length (appN (byL w) i (rdW ts j)).length]), .obj 1001 (.arr 3 1 ((appN (byL w) i (rdW ts j)).map encInt))]) (fun _ => True) (fun i => by simp only [go_sem] <;> rfl) (by simp only [go_sem, X.h, Int.toNat_zero, Int.natCast_zero] <;> rfl) ?_ (fun i hi Xi => ?_)
          ·trivial
          ·skip
           refine Exec.assocS ?_
           by_cases hi : i < min (manyL w) (17 - (rdW ts j).length)
           ·skip
            have hAl := appN_len (byL w) i (rdW ts j)
            have d3 : decide ((i : Int) < (manyL w : Int)) = true := decide_eq_true (by omega)
            have d4 : decide (((appN (byL w) i (rdW ts j)).length : Int) ≤ 16) = true := decide_eq_true (by omega)
            have hbj := boundL_app hB (byL_bnd w) i (by omega)
            have hp1 : 1 ≤ (appN (byL w) i (rdW ts j)).length := List.length_pos_iff.2 hbj.1
            have hlg := last_get hbj.1
            have h1n : (((appN (byL w) i (rdW ts j)).length : Int) - 1).toNat = (appN (byL w) i (rdW ts j)).length - 1 := by omega
            have hsu := appN_succ (byL w) i (rdW ts j)
            have hb3 := hbj.2.2.1
            have hb4 := hbj.2.2.2
            have hby3 := byL_bnd w
            refine Exec.reg ?_
            have X := ((((X.a d3).a d4).a h1n).a hlg).a hsu
            iterate 4 (refine Run.o1 V113 ?_)
            iterate 4 (refine Run.y1 V113 ?_)
            refine Run.o1 V113 ?_
            refine Run.nil ?_
            refine Exec.cndS V113 (fun hb84 => ?_) (fun hb84 => ?_)
            ·skip
             refine Exec.skipS (Exec.blk ?_)
             refine Exec.opk1 18 ?_
             iterate 7 (refine OpenK.o1 V113 ?_)
             refine OpenK.o1 V49 ?_
             refine OpenK.o1 V58 ?_
             iterate 2 (refine OpenK.o1 V113 ?_)
             refine OpenK.o1 V49 ?_
             refine OpenK.o1 V113 ?_
             refine OpenK.o1 V3 ?_
             iterate 2 (refine OpenK.o1 V113 ?_)
             refine OpenK.nil (OpenE.fin V143 V143 ?_)
             refine BlkK.nrm (Exec.reg1 ?_)
             refine Run.o1 V113 ?_
             refine Run.o1 V49 ?_
             refine Run.o1 V113 ?_
             refine Run.nil ?_
             refine ForK.nxt ?_ ?_ ?_
             ·omega
             ·exact Ghost.kp [0, 4, 5, 6, 7, 8, 9, 11, 12, 13] [8, 1000, 1001] (by simp only [go_sem, X.h, Int.toNat_zero] <;> first | ((repeat' (first | with_reducible_and_instances rfl | refine st_eq ?_ ?_ ?_ | refine ret_eq ?_ | refine tup_eq ?_ | refine tm_eq ?_ ?_ | refine arr_eq ?_ | refine cells_eq ?_ | refine val_eq ?_ | refine ls_eq ?_ ?_ | refine own_eq ?_ ?_ | refine sl_eq ?_ | refine b_eq ?_ | (refine i_eq ?_; omega))); all_goals (first | omega | (simp [encInt]; done) | (simp [encInt]; omega))) | rfl)
             ·trivial
            ·exact absurd hb84 (by simp)
           ·skip
            have hie : i = min (manyL w) (17 - (rdW ts j).length) := by omega
            have hAl := appN_len (byL w) i (rdW ts j)
            have hti : rdW ts (j + 1) = (appN (byL w) i (rdW ts j)) := by rw [hst, ← hie]
            by_cases hm2 : i < manyL w
            ·skip
             have d3 : decide ((i : Int) < (manyL w : Int)) = true := decide_eq_true (by omega)
             have d4 : decide (((appN (byL w) i (rdW ts j)).length : Int) ≤ 16) = false := decide_eq_false (by omega)
             refine Exec.reg ?_
             have X := ((X.a hti).a d3).a d4
             iterate 4 (refine Run.o1 V113 ?_)
             iterate 4 (refine Run.y1 V113 ?_)
             refine Run.o1 V113 ?_
             refine Run.nil ?_
             refine Exec.cndS V113 (fun hb84 => ?_) (fun hb84 => ?_)
             ·exact absurd hb84 (by simp)
             ·skip
              refine Exec.exitS (ForK.ext (Blk1K.hit (BlkK.nrm (Exec.reg1 ?_))))
              refine Run.o1 V113 ?_
              refine Run.o1 V49 ?_
              refine Run.o1 V113 ?_
              refine Run.nil ?_
              refine ForK.nxt ?_ ?_ ?_
              ·omega
              ·exact Ghost.kp [0, 4, 5, 6, 7, 8, 9] [8, 1000, 1001] V14
              ·trivial
            ·skip
             have d3 : decide ((i : Int) < (manyL w : Int)) = false := decide_eq_false (by omega)
             refine Exec.reg ?_
             have X := (X.a hti).a d3
             iterate 4 (refine Run.o1 V113 ?_)
             iterate 4 (refine Run.s ?_)
             refine Run.o1 V113 ?_
             refine Run.nil ?_
             refine Exec.cndS V113 (fun hb84 => ?_) (fun hb84 => ?_)
             ·exact absurd hb84 (by simp)
             ·skip
              refine Exec.exitS (ForK.ext (Blk1K.hit (BlkK.nrm (Exec.reg1 ?_))))
              refine Run.o1 V113 ?_
              refine Run.o1 V49 ?_
              refine Run.o1 V113 ?_
              refine Run.nil ?_
              refine ForK.nxt ?_ ?_ ?_
              ·omega
              ·exact Ghost.kp [0, 4, 5, 6, 7, 8, 9] [8, 1000, 1001] V14
              ·trivial
      ·skip
       have hje : j = ts.length := by have := of_decide_eq_false hb42; omega
       subst hje
       have hta : List.take (rdW ts ts.length).length (List.map encInt (rdW ts ts.length)) = List.map encInt (rdW ts ts.length) := List.take_of_length_le (by simp)
       have htl : ((looseG text).take k).length = k := by rw [List.length_take]; omega
       have htl2 : ((looseG text).take (k + 1)).length = k + 1 := by rw [List.length_take]; omega
       refine Exec.exitS (ForK.ext (BlkK.hit (Exec.reg1 ?_)))
       have X := Fx.mk hta
       refine Run.frz 1001 V136 ?_
       have X := (((((((Fx.mk d1).a d2).a hx).a hc0).a hcl).a hta).a htl).a htl2
       iterate 3 (refine Run.o1 V113 ?_)
       refine Run.o1 V3 ?_
       refine Run.o1 V113 ?_
       refine Run.nil (BlkK.nrm (Exec.reg1 ?_))
       refine Run.o1 V113 ?_
       refine Run.o1 V49 ?_
       refine Run.o1 V113 ?_
       refine Run.nil ?_
       refine ForK.nxt ?_ ?_ ?_
       ·omega
       ·exact Ghost.kp [0, 4, 5, 6] [1000] (by simp only [go_sem, X.h, Int.toNat_zero] <;> first | ((repeat' (first | with_reducible_and_instances rfl | refine st_eq ?_ ?_ ?_ | refine ret_eq ?_ | refine tup_eq ?_ | refine tm_eq ?_ ?_ | refine arr_eq ?_ | refine cells_eq ?_ | refine val_eq ?_ | refine ls_eq ?_ ?_ | refine own_eq ?_ ?_ | refine sl_eq ?_ | refine b_eq ?_ | (refine i_eq ?_; omega))); all_goals (first | omega | (rw [hts, hpe]; simp [encPg]; done))) | rfl)
       ·trivial
    ·exact absurd hb26 (by simp)
   ·skip
    have hke : k = (looseG text).length := by omega
    subst hke
    have htk : (looseG text).take (looseG text).length = looseG text := List.take_length
    by_cases hq : (looseG text).length + 1 < (cutB 10 text).length
    ·skip
     have d1 : decide (((looseG text).length : Int) + 1 < ((cutB 10 text).length : Int)) = true := decide_eq_true (by omega)
     have d2 : decide (((looseG text).length : Int) ≤ 32) = false := decide_eq_false (by omega)
     refine Exec.reg ?_
     have X := ((Fx.mk htk).a d1).a d2
     refine Run.o1 V136 ?_
     refine Run.o1 V55 ?_
     iterate 4 (refine Run.o1 V136 ?_)
     iterate 2 (refine Run.y1 V136 ?_)
     refine Run.o1 V136 ?_
     refine Run.nil ?_
     refine Exec.cndS V136 (fun hb26 => ?_) (fun hb26 => ?_)
     ·exact absurd hb26 (by simp)
     ·skip
      refine Exec.exitS (ForK.ext (Blk1K.hit ?_))
      refine JoinK.nrm (()) ?_ ?_
      ·trivial
      ·exact Ghost.kp [0, 5] [1000] V108
    ·skip
     have d1 : decide (((looseG text).length : Int) + 1 < ((cutB 10 text).length : Int)) = false := decide_eq_false (by omega)
     refine Exec.reg ?_
     have X := (Fx.mk htk).a d1
     refine Run.o1 V136 ?_
     refine Run.o1 V55 ?_
     iterate 4 (refine Run.o1 V136 ?_)
     iterate 2 (refine Run.s ?_)
     refine Run.o1 V136 ?_
     refine Run.nil ?_
     refine Exec.cndS V136 (fun hb26 => ?_) (fun hb26 => ?_)
     ·exact absurd hb26 (by simp)
     ·skip
      refine Exec.exitS (ForK.ext (Blk1K.hit ?_))
      refine JoinK.nrm (()) ?_ ?_
      ·trivial
      ·exact Ghost.kp [0, 5] [1000] V108
 refine Exec.reg ?_
 have X := Fx.mk hta2
 refine Run.frz 1000 V136 ?_
 refine Run.o ?_
 refine Run.c1 (c_ref_WritePages (looseG text) (by omega) loose_reads) V139 V139 ?_
 iterate 5 (refine Run.o ?_)
 refine Run.nil (Exec.assocS ?_)
 by_cases g1 : pagesE (looseG text) = 0
 ·skip
  by_cases g2 : wPages (looseG text) = text
  ·skip
   have hw : wPages (looseG text) = pagesB (looseG text) := if_pos g1
   have hr : readG text = some (looseG text) := by unfold readG; rw [if_pos ⟨g1, hw ▸ g2⟩]
   have hg2 : (wPages (looseG text) == text) = true := by simpa using g2
   refine Exec.reg ?_
   have X := ((Fx.mk g1).a hr).a hg2
   iterate 3 (refine Run.o1 V131 ?_)
   iterate 3 (refine Run.y1 V131 ?_)
   refine Run.o1 V131 ?_
   refine Run.nil ?_
   refine Exec.cndS V131 (fun hb117 => ?_) (fun hb117 => ?_)
   ·exact absurd hb117 (by simp)
   ·skip
    refine Exec.skipS (Exec.reg ?_)
    iterate 3 (refine Run.o1 V131 ?_)
    refine Run.nil ?_
    exact Ends.fin [] (rs := [.tmp 2, .tmp 3]) rfl V131 V105
  ·skip
   have hw : wPages (looseG text) = pagesB (looseG text) := if_pos g1
   have hr : readG text = none := by unfold readG; rw [if_neg (fun h => g2 (hw.trans h.2))]
   have hg2 : (wPages (looseG text) == text) = false := by simpa using g2
   refine Exec.reg ?_
   have X := ((Fx.mk g1).a hr).a hg2
   iterate 3 (refine Run.o1 V131 ?_)
   iterate 3 (refine Run.y1 V131 ?_)
   refine Run.o1 V131 ?_
   refine Run.nil ?_
   refine Exec.cndS V131 (fun hb117 => ?_) (fun hb117 => ?_)
   ·skip
    refine Exec.assocS (Exec.reg ?_)
    iterate 2 (refine Run.o1 V131 ?_)
    refine Run.nild 2 2 V139 V139 ?_
    refine Run.nil (Exec.retS ?_)
    exact Ends.fin [] (rs := [.tmp 2, .tmp 3]) rfl V131 V105
   ·exact absurd hb117 (by simp)
 ·skip
  have hr : readG text = none := by unfold readG; rw [if_neg (fun h => g1 h.1)]
  have hg1 : (pagesE (looseG text) != 0) = true := by simpa using g1
  refine Exec.reg ?_
  have X := (Fx.mk hr).a hg1
  iterate 3 (refine Run.o1 V131 ?_)
  iterate 3 (refine Run.s ?_)
  refine Run.o1 V131 ?_
  refine Run.nil ?_
  refine Exec.cndS V131 (fun hb117 => ?_) (fun hb117 => ?_)
  ·skip
   refine Exec.assocS (Exec.reg ?_)
   iterate 2 (refine Run.o1 V131 ?_)
   refine Run.nild 2 2 V139 V139 ?_
   refine Run.nil (Exec.retS ?_)
   exact Ends.fin [] (rs := [.tmp 2, .tmp 3]) rfl V131 V105
  ·exact absurd hb117 (by simp)

end Go.Mw

/- Contracts of the functions that the book reaches: what is valid, by the program. -/
import Derived.Test.YtpmdcdglfeicaaaGreatDoorD1
import Derived.Test.YtpmdcdglfeicaaaGreatDoorB4
import Derived.Test.YtpmdcdglfeicaaaGreatDoorB6
set_option maxRecDepth 20000
set_option maxHeartbeats 4000000
set_option linter.unusedSimpArgs false
set_option linter.unusedVariables false
set_option linter.unusedSectionVars false
set_option linter.deprecated false
namespace Go.Mw
open Go.Proofs
open Go.Bk
attribute [local go_sem] decide_true beq_self_eq_true bne_self_eq_false
theorem any_not {α : Type} {p : α → Bool} (l : List α) : l.any (fun s => !p s) = !l.all p := by rw [List.not_all_eq_any_not]
def riseT (l : List Int) (k : Nat) : Prop := ∀ i, i + 1 < k → l.getD i 0 < l.getD (i + 1) 0
theorem rise_all : ∀ (l : List Int), riseT l l.length → rises l = true
 | [], _ => rfl
 | [_], _ => rfl
 | a :: b :: l, h => by
  have h0 : a < b := h 0 (by simp)
  have h1 : riseT (b :: l) (b :: l).length := fun i hi => h (i + 1) (by simp at hi ⊢; omega)
  simp only [rises, decide_eq_true h0, rise_all (b :: l) h1, Bool.and_true]
theorem rise_get : ∀ (l : List Int), rises l = true → ∀ i, i + 1 < l.length → l.getD i 0 < l.getD (i + 1) 0
 | [], _, i, hi => by simp at hi
 | [_], _, i, hi => by simp at hi
 | a :: b :: l, h, 0, _ => by simp only [rises, Bool.and_eq_true, decide_eq_true_eq] at h; exact h.1
 | a :: b :: l, h, i + 1, hi => by
  simp only [rises, Bool.and_eq_true] at h
  exact rise_get (b :: l) h.2 i (by simp at hi ⊢; omega)
theorem rise_step {α : Type} {f : α → Int} {l : List α} {k : Nat} {x y : α} (h : riseT (l.map f) k) (hx : l[k]? = some x) (hy : l[k - 1]? = some y) (hxy : f y < f x) : riseT (l.map f) (k + 1) := fun i hi => by
 by_cases e : i + 1 < k
 ·exact h i e
 ·have : i + 1 = k := by omega
  subst this
  have e1 : (l.map f).getD i 0 = f y := by simp [List.getD, show l[i]? = some y from hy]
  have e2 : (l.map f).getD (i + 1) 0 = f x := by simp [List.getD, hx]
  rw [e1, e2]; exact hxy
theorem rise_one (l : List Int) : riseT l 1 := fun i hi => absurd hi (by omega)
theorem rise_zero (l : List Int) : riseT l 0 := fun i hi => absurd hi (by omega)
theorem rise_no {α : Type} {f : α → Int} {l : List α} {k : Nat} {x y : α} (hk : 0 < k) (hx : l[k]? = some x) (hy : l[k - 1]? = some y) (hxy : ¬ f y < f x) : rises (l.map f) = false := by
 rw [← Bool.not_eq_true]
 intro h
 have hl := (List.getElem?_eq_some_iff.1 hx).1
 have := rise_get _ h (k - 1) V168
 rw [show k - 1 + 1 = k by omega] at this
 have e1 : (l.map f).getD (k - 1) 0 = f y := by simp [List.getD, hy]
 have e2 : (l.map f).getD k 0 = f x := by simp [List.getD, hx]
 rw [e1, e2] at this
 exact hxy this
theorem rise_done {α : Type} {f : α → Int} {l : List α} {k : Nat} (h : riseT (l.map f) k) (hk : l.length ≤ k) : rises (l.map f) = true := rise_all _ fun i hi => h i (by simp at hi; omega)
theorem err3 {n most : Nat} (ok rise : Bool) (h : most < n) : errB n most ok rise = 3 := if_pos h
theorem err1 {n most : Nat} (rise : Bool) (h : n ≤ most) : errB n most false rise = 1 := by unfold errB; rw [if_neg (by omega)]; rfl
theorem err7 {n most : Nat} (h : n ≤ most) : errB n most true false = 7 := by unfold errB; rw [if_neg (by omega)]; rfl
theorem err0 {n most : Nat} (h : n ≤ most) : errB n most true true = 0 := by unfold errB; rw [if_neg (by omega)]; rfl
theorem sort_all : ∀ (l : List Int), (∀ i, i + 1 < l.length → l.getD i 0 ≤ l.getD (i + 1) 0) → sortB l = true
 | [], _ => rfl
 | [_], _ => rfl
 | a :: b :: l, h => by
  have h0 : a ≤ b := h 0 (by simp)
  have h1 : ∀ i, i + 1 < (b :: l).length → (b :: l).getD i 0 ≤ (b :: l).getD (i + 1) 0 := fun i hi => h (i + 1) (by simp at hi ⊢; omega)
  simp only [sortB, decide_eq_true h0, sort_all (b :: l) h1, Bool.and_true]
theorem sort_get : ∀ (l : List Int), sortB l = true → ∀ i, i + 1 < l.length → l.getD i 0 ≤ l.getD (i + 1) 0
 | [], _, i, hi => by simp at hi
 | [_], _, i, hi => by simp at hi
 | a :: b :: l, h, 0, _ => by simp only [sortB, Bool.and_eq_true, decide_eq_true_eq] at h; exact h.1
 | a :: b :: l, h, i + 1, hi => by
  simp only [sortB, Bool.and_eq_true] at h
  exact sort_get (b :: l) h.2 i (by simp at hi ⊢; omega)
theorem get_of {l : List Int} {i : Nat} {x : Int} (h : l[i]? = some x) : l.getD i 0 = x := by simp [List.getD, h]
theorem c_IndexFunc_Int {g : FuncId} {ds : List D} (p : Int → Bool) (hg : canCall Tryz.prog g = true) (l : List Int) (hl : l.length ≤ 100000) (hp : ∀ s, s ∈ l → Contract Tryz.prog g (.int s :: ds.map fun x => .leaf (.d x)) (.bool (p s)) []) : Contract Tryz.prog 173 [.leaf (.d (.sl 1 (l.map encInt))), .leaf (.d (.fn g ds))] (.int (idxI (l.findIdx? p))) [] := by
 refine con_of follows_mixed Tryz.func173 rfl (by simp only [List.length_cons, List.length_nil, Tryz.ntmps173]; omega) V169 rfl ?_
 refine Exec.reg ?_
 refine Run.o ?_
 refine Run.nil (Exec.assocS (Exec.reg ?_))
 iterate 3 (refine Run.o ?_)
 refine Run.nil (Exec.blk ?_)
 refine Exec.forA [0, 1, 7, 8] [] (l.length) (fun k => [.slot 8 (.int k)]) (fun k => (l.take k).any p = false) (fun k => by simp only [go_sem] <;> rfl) V162 ?_ (fun k hk hX => ?_)
 ·rfl
 ·skip
  refine Exec.reg ?_
  refine Run.o ?_
  refine Run.nil ?_
  refine Exec.cndS V162 (fun hb9 => ?_) (fun hb9 => ?_)
  ·skip
   have hlt := lt_of_dec hb9
   obtain ⟨s, hs⟩ := elem_of hb9
   refine Exec.skipS (Exec.blk (Exec.reg ?_))
   have X := Fx.mk hs
   iterate 2 (refine Run.o1 V158 ?_)
   refine Run.nil (Exec.reg ?_)
   iterate 3 (refine Run.o1 V158 ?_)
   refine Run.o1 V88 ?_
   refine Run.o1 V158 ?_
   refine Run.calw V162 (hp s (List.mem_of_getElem? hs)) (by assumption) V158 V158 V91 (fr0) V158 ?_
   refine Run.nil ?_
   refine Exec.cnd V158 (fun hb16 => ?_) (fun hb16 => ?_)
   ·skip
    have hr := find_at hX hs hb16
    refine Exec.reg ?_
    have X := X.a hr
    iterate 2 (refine Run.o1 V150 ?_)
    refine Run.nil (BlkK.ret (ForK.ret (BlkK.ret ?_)))
    exact Ends.fin [] (rs := [.tmp 4]) rfl V150 V123
   ·skip
    refine BlkK.nrm (Exec.reg1 ?_)
    refine Run.o1 V67 ?_
    refine Run.o1 V158 ?_
    refine Run.nil ?_
    refine ForK.nxt ?_ ?_ ?_
    ·omega
    ·exact Ghost.kp [0, 1, 7, 8] [] V130
    ·exact any_step hX hs hb16
  ·skip
   have hr := find_none hX (ge_of_dec hb9)
   refine Exec.exitS (ForK.ext (BlkK.hit (Exec.reg ?_)))
   have X := Fx.mk hr
   refine Run.o1 V150 ?_
   refine Run.nil ?_
   exact Ends.fin [] (rs := [.tmp 4]) rfl V150 V123
theorem c_ContainsFunc_Int {g : FuncId} {ds : List D} (p : Int → Bool) (hg : canCall Tryz.prog g = true) (l : List Int) (hl : l.length ≤ 100000) (hp : ∀ s, s ∈ l → Contract Tryz.prog g (.int s :: ds.map fun x => .leaf (.d x)) (.bool (p s)) []) : Contract Tryz.prog 143 [.leaf (.d (.sl 1 (l.map encInt))), .leaf (.d (.fn g ds))] (.bool (l.any p)) [] := by
 refine con_of follows_mixed Tryz.func143 rfl (by simp only [List.length_cons, List.length_nil, Tryz.ntmps143]; omega) V169 rfl ?_
 refine Exec.reg ?_
 refine Run.o1 V141 ?_
 refine Run.nil (Exec.reg ?_)
 iterate 2 (refine Run.o1 V141 ?_)
 refine Run.c1 (c_IndexFunc_Int p hg l hl hp) V141 V141 ?_
 iterate 2 (refine Run.o1 V141 ?_)
 refine Run.nil ?_
 exact Ends.fin [] (rs := [.tmp 4]) rfl V141 V115
theorem c_IndexFunc_Tr {g : FuncId} {ds : List D} (p : Tr → Bool) (hg : canCall Tryz.prog g = true) (l : List Tr) (hl : l.length ≤ 100000) (hp : ∀ s, s ∈ l → Contract Tryz.prog g (trV s :: ds.map fun x => .leaf (.d x)) (.bool (p s)) []) : Contract Tryz.prog 193 [.leaf (.d (.sl 3 (l.map encTr))), .leaf (.d (.fn g ds))] (.int (idxI (l.findIdx? p))) [] := by
 refine con_of follows_mixed Tryz.func193 rfl (by simp only [List.length_cons, List.length_nil, Tryz.ntmps193]; omega) V169 rfl ?_
 refine Exec.reg ?_
 refine Run.o ?_
 refine Run.nil (Exec.assocS (Exec.reg ?_))
 iterate 3 (refine Run.o ?_)
 refine Run.nil (Exec.blk ?_)
 refine Exec.forA [0, 1, 7, 8] [] (l.length) (fun k => [.slot 8 (.int k)]) (fun k => (l.take k).any p = false) (fun k => by simp only [go_sem] <;> rfl) V162 ?_ (fun k hk hX => ?_)
 ·rfl
 ·skip
  refine Exec.reg ?_
  refine Run.o ?_
  refine Run.nil ?_
  refine Exec.cndS V162 (fun hb9 => ?_) (fun hb9 => ?_)
  ·skip
   have hlt := lt_of_dec hb9
   obtain ⟨s, hs⟩ := elem_of hb9
   refine Exec.skipS (Exec.blk (Exec.reg ?_))
   have X := Fx.mk hs
   iterate 2 (refine Run.o1 V158 ?_)
   refine Run.nil (Exec.reg ?_)
   iterate 3 (refine Run.o1 V158 ?_)
   refine Run.o1 V88 ?_
   refine Run.o1 V158 ?_
   refine Run.calw V162 (hp s (List.mem_of_getElem? hs)) (by assumption) V158 V158 V91 (fr0) V158 ?_
   refine Run.nil ?_
   refine Exec.cnd V158 (fun hb16 => ?_) (fun hb16 => ?_)
   ·skip
    have hr := find_at hX hs hb16
    refine Exec.reg ?_
    have X := X.a hr
    iterate 2 (refine Run.o1 V150 ?_)
    refine Run.nil (BlkK.ret (ForK.ret (BlkK.ret ?_)))
    exact Ends.fin [] (rs := [.tmp 4]) rfl V150 V123
   ·skip
    refine BlkK.nrm (Exec.reg1 ?_)
    refine Run.o1 V67 ?_
    refine Run.o1 V158 ?_
    refine Run.nil ?_
    refine ForK.nxt ?_ ?_ ?_
    ·omega
    ·exact Ghost.kp [0, 1, 7, 8] [] V130
    ·exact any_step hX hs hb16
  ·skip
   have hr := find_none hX (ge_of_dec hb9)
   refine Exec.exitS (ForK.ext (BlkK.hit (Exec.reg ?_)))
   have X := Fx.mk hr
   refine Run.o1 V150 ?_
   refine Run.nil ?_
   exact Ends.fin [] (rs := [.tmp 4]) rfl V150 V123
theorem c_ContainsFunc_Tr {g : FuncId} {ds : List D} (p : Tr → Bool) (hg : canCall Tryz.prog g = true) (l : List Tr) (hl : l.length ≤ 100000) (hp : ∀ s, s ∈ l → Contract Tryz.prog g (trV s :: ds.map fun x => .leaf (.d x)) (.bool (p s)) []) : Contract Tryz.prog 163 [.leaf (.d (.sl 3 (l.map encTr))), .leaf (.d (.fn g ds))] (.bool (l.any p)) [] := by
 refine con_of follows_mixed Tryz.func163 rfl (by simp only [List.length_cons, List.length_nil, Tryz.ntmps163]; omega) V169 rfl ?_
 refine Exec.reg ?_
 refine Run.o1 V141 ?_
 refine Run.nil (Exec.reg ?_)
 iterate 2 (refine Run.o1 V141 ?_)
 refine Run.c1 (c_IndexFunc_Tr p hg l hl hp) V141 V141 ?_
 iterate 2 (refine Run.o1 V141 ?_)
 refine Run.nil ?_
 exact Ends.fin [] (rs := [.tmp 4]) rfl V141 V115
theorem c_IndexFunc_Sh {g : FuncId} {ds : List D} (p : Sh → Bool) (hg : canCall Tryz.prog g = true) (l : List Sh) (hl : l.length ≤ 100000) (hp : ∀ s, s ∈ l → Contract Tryz.prog g (shV s :: ds.map fun x => .leaf (.d x)) (.bool (p s)) []) : Contract Tryz.prog 192 [.leaf (.d (.sl 2 (l.map encSh))), .leaf (.d (.fn g ds))] (.int (idxI (l.findIdx? p))) [] := by
 refine con_of follows_mixed Tryz.func192 rfl (by simp only [List.length_cons, List.length_nil, Tryz.ntmps192]; omega) V169 rfl ?_
 refine Exec.reg ?_
 refine Run.o ?_
 refine Run.nil (Exec.assocS (Exec.reg ?_))
 iterate 3 (refine Run.o ?_)
 refine Run.nil (Exec.blk ?_)
 refine Exec.forA [0, 1, 7, 8] [] (l.length) (fun k => [.slot 8 (.int k)]) (fun k => (l.take k).any p = false) (fun k => by simp only [go_sem] <;> rfl) V162 ?_ (fun k hk hX => ?_)
 ·rfl
 ·skip
  refine Exec.reg ?_
  refine Run.o ?_
  refine Run.nil ?_
  refine Exec.cndS V162 (fun hb9 => ?_) (fun hb9 => ?_)
  ·skip
   have hlt := lt_of_dec hb9
   obtain ⟨s, hs⟩ := elem_of hb9
   refine Exec.skipS (Exec.blk (Exec.reg ?_))
   have X := Fx.mk hs
   iterate 2 (refine Run.o1 V158 ?_)
   refine Run.nil (Exec.reg ?_)
   iterate 3 (refine Run.o1 V158 ?_)
   refine Run.o1 V88 ?_
   refine Run.o1 V158 ?_
   refine Run.calw V162 (hp s (List.mem_of_getElem? hs)) (by assumption) V158 V158 V91 (fr0) V158 ?_
   refine Run.nil ?_
   refine Exec.cnd V158 (fun hb16 => ?_) (fun hb16 => ?_)
   ·skip
    have hr := find_at hX hs hb16
    refine Exec.reg ?_
    have X := X.a hr
    iterate 2 (refine Run.o1 V150 ?_)
    refine Run.nil (BlkK.ret (ForK.ret (BlkK.ret ?_)))
    exact Ends.fin [] (rs := [.tmp 4]) rfl V150 V123
   ·skip
    refine BlkK.nrm (Exec.reg1 ?_)
    refine Run.o1 V67 ?_
    refine Run.o1 V158 ?_
    refine Run.nil ?_
    refine ForK.nxt ?_ ?_ ?_
    ·omega
    ·exact Ghost.kp [0, 1, 7, 8] [] V130
    ·exact any_step hX hs hb16
  ·skip
   have hr := find_none hX (ge_of_dec hb9)
   refine Exec.exitS (ForK.ext (BlkK.hit (Exec.reg ?_)))
   have X := Fx.mk hr
   refine Run.o1 V150 ?_
   refine Run.nil ?_
   exact Ends.fin [] (rs := [.tmp 4]) rfl V150 V123
theorem c_ContainsFunc_Sh {g : FuncId} {ds : List D} (p : Sh → Bool) (hg : canCall Tryz.prog g = true) (l : List Sh) (hl : l.length ≤ 100000) (hp : ∀ s, s ∈ l → Contract Tryz.prog g (shV s :: ds.map fun x => .leaf (.d x)) (.bool (p s)) []) : Contract Tryz.prog 160 [.leaf (.d (.sl 2 (l.map encSh))), .leaf (.d (.fn g ds))] (.bool (l.any p)) [] := by
 refine con_of follows_mixed Tryz.func160 rfl (by simp only [List.length_cons, List.length_nil, Tryz.ntmps160]; omega) V169 rfl ?_
 refine Exec.reg ?_
 refine Run.o1 V141 ?_
 refine Run.nil (Exec.reg ?_)
 iterate 2 (refine Run.o1 V141 ?_)
 refine Run.c1 (c_IndexFunc_Sh p hg l hl hp) V141 V141 ?_
 iterate 2 (refine Run.o1 V141 ?_)
 refine Run.nil ?_
 exact Ends.fin [] (rs := [.tmp 4]) rfl V141 V115
theorem c_IndexFunc_Pl {g : FuncId} {ds : List D} (p : Pl → Bool) (hg : canCall Tryz.prog g = true) (l : List Pl) (hl : l.length ≤ 100000) (hp : ∀ s, s ∈ l → Contract Tryz.prog g (plV s :: ds.map fun x => .leaf (.d x)) (.bool (p s)) []) : Contract Tryz.prog 186 [.leaf (.d (.sl 3 (l.map encPl))), .leaf (.d (.fn g ds))] (.int (idxI (l.findIdx? p))) [] := by
 refine con_of follows_mixed Tryz.func186 rfl (by simp only [List.length_cons, List.length_nil, Tryz.ntmps186]; omega) V169 rfl ?_
 refine Exec.reg ?_
 refine Run.o ?_
 refine Run.nil (Exec.assocS (Exec.reg ?_))
 iterate 3 (refine Run.o ?_)
 refine Run.nil (Exec.blk ?_)
 refine Exec.forA [0, 1, 7, 8] [] (l.length) (fun k => [.slot 8 (.int k)]) (fun k => (l.take k).any p = false) (fun k => by simp only [go_sem] <;> rfl) V162 ?_ (fun k hk hX => ?_)
 ·rfl
 ·skip
  refine Exec.reg ?_
  refine Run.o ?_
  refine Run.nil ?_
  refine Exec.cndS V162 (fun hb9 => ?_) (fun hb9 => ?_)
  ·skip
   have hlt := lt_of_dec hb9
   obtain ⟨s, hs⟩ := elem_of hb9
   refine Exec.skipS (Exec.blk (Exec.reg ?_))
   have X := Fx.mk hs
   iterate 2 (refine Run.o1 V158 ?_)
   refine Run.nil (Exec.reg ?_)
   iterate 3 (refine Run.o1 V158 ?_)
   refine Run.o1 V88 ?_
   refine Run.o1 V158 ?_
   refine Run.calw V162 (hp s (List.mem_of_getElem? hs)) (by assumption) V158 V158 V91 (fr0) V158 ?_
   refine Run.nil ?_
   refine Exec.cnd V158 (fun hb16 => ?_) (fun hb16 => ?_)
   ·skip
    have hr := find_at hX hs hb16
    refine Exec.reg ?_
    have X := X.a hr
    iterate 2 (refine Run.o1 V150 ?_)
    refine Run.nil (BlkK.ret (ForK.ret (BlkK.ret ?_)))
    exact Ends.fin [] (rs := [.tmp 4]) rfl V150 V123
   ·skip
    refine BlkK.nrm (Exec.reg1 ?_)
    refine Run.o1 V67 ?_
    refine Run.o1 V158 ?_
    refine Run.nil ?_
    refine ForK.nxt ?_ ?_ ?_
    ·omega
    ·exact Ghost.kp [0, 1, 7, 8] [] V130
    ·exact any_step hX hs hb16
  ·skip
   have hr := find_none hX (ge_of_dec hb9)
   refine Exec.exitS (ForK.ext (BlkK.hit (Exec.reg ?_)))
   have X := Fx.mk hr
   refine Run.o1 V150 ?_
   refine Run.nil ?_
   exact Ends.fin [] (rs := [.tmp 4]) rfl V150 V123
theorem c_ContainsFunc_Pl {g : FuncId} {ds : List D} (p : Pl → Bool) (hg : canCall Tryz.prog g = true) (l : List Pl) (hl : l.length ≤ 100000) (hp : ∀ s, s ∈ l → Contract Tryz.prog g (plV s :: ds.map fun x => .leaf (.d x)) (.bool (p s)) []) : Contract Tryz.prog 154 [.leaf (.d (.sl 3 (l.map encPl))), .leaf (.d (.fn g ds))] (.bool (l.any p)) [] := by
 refine con_of follows_mixed Tryz.func154 rfl (by simp only [List.length_cons, List.length_nil, Tryz.ntmps154]; omega) V169 rfl ?_
 refine Exec.reg ?_
 refine Run.o1 V141 ?_
 refine Run.nil (Exec.reg ?_)
 iterate 2 (refine Run.o1 V141 ?_)
 refine Run.c1 (c_IndexFunc_Pl p hg l hl hp) V141 V141 ?_
 iterate 2 (refine Run.o1 V141 ?_)
 refine Run.nil ?_
 exact Ends.fin [] (rs := [.tmp 4]) rfl V141 V115
theorem c_IndexFunc_Pg {g : FuncId} {ds : List D} (p : Pg → Bool) (hg : canCall Tryz.prog g = true) (l : List Pg) (hl : l.length ≤ 100000) (hp : ∀ s, s ∈ l → Contract Tryz.prog g (pgV s :: ds.map fun x => .leaf (.d x)) (.bool (p s)) []) : Contract Tryz.prog 172 [.leaf (.d (.sl 2 (l.map encPg))), .leaf (.d (.fn g ds))] (.int (idxI (l.findIdx? p))) [] := by
 refine con_of follows_mixed Tryz.func172 rfl (by simp only [List.length_cons, List.length_nil, Tryz.ntmps172]; omega) V169 rfl ?_
 refine Exec.reg ?_
 refine Run.o ?_
 refine Run.nil (Exec.assocS (Exec.reg ?_))
 iterate 3 (refine Run.o ?_)
 refine Run.nil (Exec.blk ?_)
 refine Exec.forA [0, 1, 7, 8] [] (l.length) (fun k => [.slot 8 (.int k)]) (fun k => (l.take k).any p = false) (fun k => by simp only [go_sem] <;> rfl) V162 ?_ (fun k hk hX => ?_)
 ·rfl
 ·skip
  refine Exec.reg ?_
  refine Run.o ?_
  refine Run.nil ?_
  refine Exec.cndS V162 (fun hb9 => ?_) (fun hb9 => ?_)
  ·skip
   have hlt := lt_of_dec hb9
   obtain ⟨s, hs⟩ := elem_of hb9
   refine Exec.skipS (Exec.blk (Exec.reg ?_))
   have X := Fx.mk hs
   iterate 2 (refine Run.o1 V158 ?_)
   refine Run.nil (Exec.reg ?_)
   iterate 3 (refine Run.o1 V158 ?_)
   refine Run.o1 V88 ?_
   refine Run.o1 V158 ?_
   refine Run.calw V162 (hp s (List.mem_of_getElem? hs)) (by assumption) V158 V158 V91 (fr0) V158 ?_
   refine Run.nil ?_
   refine Exec.cnd V158 (fun hb16 => ?_) (fun hb16 => ?_)
   ·skip
    have hr := find_at hX hs hb16
    refine Exec.reg ?_
    have X := X.a hr
    iterate 2 (refine Run.o1 V150 ?_)
    refine Run.nil (BlkK.ret (ForK.ret (BlkK.ret ?_)))
    exact Ends.fin [] (rs := [.tmp 4]) rfl V150 V123
   ·skip
    refine BlkK.nrm (Exec.reg1 ?_)
    refine Run.o1 V67 ?_
    refine Run.o1 V158 ?_
    refine Run.nil ?_
    refine ForK.nxt ?_ ?_ ?_
    ·omega
    ·exact Ghost.kp [0, 1, 7, 8] [] V130
    ·exact any_step hX hs hb16
  ·skip
   have hr := find_none hX (ge_of_dec hb9)
   refine Exec.exitS (ForK.ext (BlkK.hit (Exec.reg ?_)))
   have X := Fx.mk hr
   refine Run.o1 V150 ?_
   refine Run.nil ?_
   exact Ends.fin [] (rs := [.tmp 4]) rfl V150 V123
theorem c_ContainsFunc_Pg {g : FuncId} {ds : List D} (p : Pg → Bool) (hg : canCall Tryz.prog g = true) (l : List Pg) (hl : l.length ≤ 100000) (hp : ∀ s, s ∈ l → Contract Tryz.prog g (pgV s :: ds.map fun x => .leaf (.d x)) (.bool (p s)) []) : Contract Tryz.prog 139 [.leaf (.d (.sl 2 (l.map encPg))), .leaf (.d (.fn g ds))] (.bool (l.any p)) [] := by
 refine con_of follows_mixed Tryz.func139 rfl (by simp only [List.length_cons, List.length_nil, Tryz.ntmps139]; omega) V169 rfl ?_
 refine Exec.reg ?_
 refine Run.o1 V141 ?_
 refine Run.nil (Exec.reg ?_)
 iterate 2 (refine Run.o1 V141 ?_)
 refine Run.c1 (c_IndexFunc_Pg p hg l hl hp) V141 V141 ?_
 iterate 2 (refine Run.o1 V141 ?_)
 refine Run.nil ?_
 exact Ends.fin [] (rs := [.tmp 4]) rfl V141 V115
theorem c_isSheet_1 (t : Tr) : Contract Tryz.prog 162 [trV t] (.bool (!tryOK t)) [] := by
 refine con_of follows_mixed Tryz.func162 rfl (by simp only [List.length_cons, List.length_nil, Tryz.ntmps162]; omega) V169 rfl ?_
 refine Exec.reg ?_
 iterate 2 (refine Run.o1 V134 ?_)
 refine Run.nil (Exec.reg ?_)
 iterate 2 (refine Run.o1 V134 ?_)
 refine Run.c1 (c_within _ _ _) V134 V134 ?_
 iterate 2 (refine Run.o1 V134 ?_)
 iterate 2 (refine Run.gop V162 V134 V162 ?_)
 refine Run.gcal V162 (c_within _ _ _) V164 V134 V23 V134 ?_
 refine Run.gop V162 V134 V162 ?_
 iterate 2 (refine Run.o1 V134 ?_)
 iterate 2 (refine Run.gop V162 V134 V162 ?_)
 refine Run.gcal V162 (c_within _ _ _) V164 V134 V23 V134 ?_
 refine Run.gop V162 V134 V162 ?_
 iterate 2 (refine Run.o1 V134 ?_)
 refine Run.nil ?_
 exact Ends.fin [] (rs := [.tmp 2]) rfl V134 (by simp only [go_sem, tryOK, Bool.not_and] <;> first | rfl | exact eqz)
theorem c_isSheet (x : Sh) (h : x.tries.length ≤ 1000) : Contract Tryz.prog 129 [shV x] (.bool (sheetOK x)) [] := by
 have hle : decide ((x.tries.length : Int) ≤ 6) = decide (x.tries.length ≤ 6) := by rw [decide_eq_decide]; omega
 refine con_of follows_mixed Tryz.func129 rfl (by simp only [List.length_cons, List.length_nil, Tryz.ntmps129]; omega) V169 rfl ?_
 refine Exec.reg ?_
 have X := Fx.mk hle
 iterate 2 (refine Run.o1 V117 ?_)
 refine Run.nil (Exec.reg ?_)
 refine Run.o1 V117 ?_
 refine Run.nil (Exec.reg ?_)
 iterate 2 (refine Run.o1 V117 ?_)
 refine Run.c1 (c_within _ _ _) V117 V117 ?_
 refine Run.o1 V117 ?_
 iterate 4 (refine Run.gop V162 V117 V162 ?_)
 iterate 2 (refine Run.o1 V117 ?_)
 iterate 3 (refine Run.gop V162 V117 V162 ?_)
 refine Run.gcal V162 (c_ContainsFunc_Tr (fun t => !tryOK t) (ds := []) V164 x.tries (by omega) (fun t _ => c_isSheet_1 t)) V164 V117 V32 V117 ?_
 refine Run.gop V162 V117 V162 ?_
 iterate 2 (refine Run.o1 V117 ?_)
 refine Run.nil ?_
 exact Ends.fin [] (rs := [.tmp 2]) rfl V117 (by simp only [go_sem, X.h, sheetOK, any_not, Bool.not_not] <;> first | rfl | exact eqz)
theorem c_isPlate (x : Pl) : Contract Tryz.prog 119 [plV x] (.bool (plateOK x)) [] := by
 refine con_of follows_mixed Tryz.func119 rfl (by simp only [List.length_cons, List.length_nil, Tryz.ntmps119]; omega) V169 rfl ?_
 refine Exec.reg ?_
 iterate 2 (refine Run.o1 V154 ?_)
 refine Run.nil (Exec.reg ?_)
 iterate 2 (refine Run.o1 V154 ?_)
 refine Run.c1 (c_within _ _ _) V154 V154 ?_
 refine Run.o1 V154 ?_
 iterate 2 (refine Run.gop V162 V154 V162 ?_)
 refine Run.gcal V162 (c_within _ _ _) V164 V154 V23 V154 ?_
 iterate 2 (refine Run.o1 V154 ?_)
 iterate 2 (refine Run.gop V162 V154 V162 ?_)
 refine Run.gcal V162 (c_within _ _ _) V164 V154 V23 V154 ?_
 iterate 2 (refine Run.o1 V154 ?_)
 refine Run.nil ?_
 exact Ends.fin [] (rs := [.tmp 2]) rfl V154 (by simp only [go_sem, plateOK] <;> first | rfl | exact eqz)
theorem c_isPage_1 (n : Int) : Contract Tryz.prog 141 [.int n] (.bool (!inD n 0 1073741824)) [] := by
 refine con_of follows_mixed Tryz.func141 rfl (by simp only [List.length_cons, List.length_nil, Tryz.ntmps141]; omega) V169 rfl ?_
 refine Exec.reg ?_
 refine Run.o ?_
 refine Run.nil (Exec.reg ?_)
 refine Run.o ?_
 refine Run.c1 (c_within _ _ _) V162 V162 ?_
 iterate 2 (refine Run.o ?_)
 refine Run.nil ?_
 exact Ends.fin [] (rs := [.tmp 2]) rfl V162 V137
theorem c_isNaN (n : Int) : Contract Tryz.prog 153 [.int n] (.bool false) [] := by
 refine con_of follows_mixed Tryz.func153 rfl (by simp only [List.length_cons, List.length_nil, Tryz.ntmps153]; omega) V169 rfl ?_
 refine Exec.reg ?_
 refine Run.o ?_
 refine Run.nil (Exec.reg ?_)
 iterate 4 (refine Run.o ?_)
 refine Run.nil ?_
 exact Ends.fin [] (rs := [.tmp 2]) rfl V162 V137
theorem c_Less (n m : Int) : Contract Tryz.prog 174 [.int n, .int m] (.bool (decide (n < m))) [] := by
 refine con_of follows_mixed Tryz.func174 rfl (by simp only [List.length_cons, List.length_nil, Tryz.ntmps174]; omega) V169 rfl ?_
 refine Exec.reg ?_
 refine Run.o ?_
 refine Run.nil (Exec.reg ?_)
 refine Run.o ?_
 refine Run.c1 (c_isNaN _) V162 V162 ?_
 refine Run.o ?_
 refine Run.gop V162 V162 V162 ?_
 refine Run.gcal V162 (c_isNaN _) V164 V162 V74 V162 ?_
 refine Run.gop V162 V162 V162 ?_
 iterate 2 (refine Run.o ?_)
 iterate 3 (refine Run.gop V162 V162 V162 ?_)
 iterate 2 (refine Run.o ?_)
 refine Run.nil ?_
 exact Ends.fin [] (rs := [.tmp 4]) rfl V162 V137
theorem c_IsSorted (l : List Int) (hl : l.length ≤ 1000) : Contract Tryz.prog 144 [.leaf (.d (intsD l))] (.bool (sortB l)) [] := by
 have h64 : IntKind.i64.wrap ((l.length : Int) - 1) = (l.length : Int) - 1 := IntWalk.i64_in _ (by omega)
 have hz0 : (l.length : Int) - 1 - ((0 : Nat) : Int) = (l.length : Int) - 1 := by omega
 refine con_of follows_mixed Tryz.func144 rfl (by simp only [List.length_cons, List.length_nil, Tryz.ntmps144]; omega) V169 rfl ?_
 refine Exec.reg ?_
 have X := Fx.mk h64
 refine Run.o1 V158 ?_
 refine Run.nil (Exec.assocS (Exec.reg ?_))
 iterate 2 (refine Run.o1 V158 ?_)
 refine Run.o1 V67 ?_
 refine Run.o1 V158 ?_
 refine Run.nil (Exec.blk ?_)
 have X := X.a hz0
 refine Exec.forA [0, 3] [] (l.length - 1) (fun k => [.slot 3 (.int ((l.length : Int) - 1 - k))]) (fun k => ∀ i, l.length ≤ i + 1 + k → i + 1 < l.length → l.getD i 0 ≤ l.getD (i + 1) 0) (fun k => by simp only [go_sem] <;> rfl) V158 ?_ (fun k hk hX => ?_)
 ·exact fun i h1 h2 => absurd h1 (by omega)
 ·skip
  refine Exec.assocS (Exec.reg ?_)
  have X := Fx.mk h64
  iterate 2 (refine Run.o1 V158 ?_)
  refine Run.nil ?_
  refine Exec.cndS V158 (fun hb8 => ?_) (fun hb8 => ?_)
  ·skip
   have hgt : 0 < l.length - 1 - k := by have := of_decide_eq_true hb8; omega
   obtain ⟨x, hx⟩ : ∃ x, l[l.length - 1 - k]? = some x := ⟨_, List.getElem?_eq_getElem (by omega)⟩
   obtain ⟨y, hy⟩ : ∃ y, l[l.length - 1 - k - 1]? = some y := ⟨_, List.getElem?_eq_getElem (by omega)⟩
   have t1 : ((l.length : Int) - 1 - (k : Int)).toNat = l.length - 1 - k := by omega
   have w2 : IntKind.i64.wrap ((l.length : Int) - 1 - (k : Int) - 1) = (l.length : Int) - 1 - (k : Int) - 1 := IntWalk.i64_in _ (by omega)
   have t2 : ((l.length : Int) - 1 - (k : Int) - 1).toNat = l.length - 1 - k - 1 := by omega
   have e3 : (l.length : Int) - 1 - ((k + 1 : Nat) : Int) = (l.length : Int) - 1 - (k : Int) - 1 := by omega
   refine Exec.skipS (Exec.blk ?_)
   refine Exec.opk 12 ?_
   have X := (((((X.a t1).a w2).a t2).a hx).a hy).a e3
   iterate 2 (refine OpenK.o1 V158 ?_)
   refine OpenK.o1 V88 ?_
   iterate 3 (refine OpenK.o1 V158 ?_)
   refine OpenK.o1 V67 ?_
   refine OpenK.o1 V88 ?_
   refine OpenK.o1 V158 ?_
   refine OpenK.cal (c_Less x y) V164 V158 V32 (fr0) V158 V162 V162 ?_
   refine OpenK.nil (OpenE.fin V166 V166 ?_)
   refine Exec.cnd V158 (fun hb20 => ?_) (fun hb20 => ?_)
   ·skip
    have hr : sortB l = false := by
     rw [← Bool.not_eq_true]
     intro h
     have := sort_get l h (l.length - 1 - k - 1) (by omega)
     rw [show l.length - 1 - k - 1 + 1 = l.length - 1 - k by omega, get_of hx, get_of hy] at this
     have := of_decide_eq_true hb20
     omega
    refine Exec.reg ?_
    have X := X.a hr
    refine Run.o1 V158 ?_
    refine Run.nil (BlkK.ret (ForK.ret (BlkK.ret ?_)))
    exact Ends.fin [] (rs := [.tmp 2]) rfl V158 V129
   ·skip
    refine BlkK.nrm (Exec.reg1 ?_)
    refine Run.o1 V158 ?_
    refine Run.o1 V67 ?_
    refine Run.o1 V158 ?_
    refine Run.nil ?_
    refine ForK.nxt ?_ ?_ ?_
    ·omega
    ·exact Ghost.kp [0, 3] [] V130
    ·exact fun i h1 h2 => if e : i + 1 = l.length - 1 - k then (by rw [show i = l.length - 1 - k - 1 by omega, show l.length - 1 - k - 1 + 1 = l.length - 1 - k by omega, get_of hx, get_of hy]; have := of_decide_eq_false hb20; omega) else hX i (by omega) h2
  ·skip
   have hr : sortB l = true := sort_all l fun i hi => hX i (by have := of_decide_eq_false hb8; omega) hi
   refine Exec.exitS (ForK.ext (BlkK.hit (Exec.reg ?_)))
   have X := X.a hr
   refine Run.o1 V158 ?_
   refine Run.nil ?_
   exact Ends.fin [] (rs := [.tmp 2]) rfl V158 V129
theorem c_isPage (x : Pg) (h : x.reads.length ≤ 1000) : Contract Tryz.prog 100 [pgV x] (.bool (pageOK x)) [] := by
 have hle : decide ((x.reads.length : Int) ≤ 16) = decide (x.reads.length ≤ 16) := by rw [decide_eq_decide]; omega
 refine con_of follows_mixed Tryz.func100 rfl (by simp only [List.length_cons, List.length_nil, Tryz.ntmps100]; omega) V169 rfl ?_
 refine Exec.reg ?_
 have X := Fx.mk hle
 iterate 2 (refine Run.o1 V120 ?_)
 refine Run.nil (Exec.reg ?_)
 refine Run.o1 V120 ?_
 refine Run.nil (Exec.reg ?_)
 iterate 2 (refine Run.o1 V120 ?_)
 refine Run.c1 (c_within _ _ _) V120 V120 ?_
 refine Run.o1 V120 ?_
 iterate 4 (refine Run.gop V162 V120 V162 ?_)
 iterate 2 (refine Run.o1 V120 ?_)
 iterate 3 (refine Run.gop V162 V120 V162 ?_)
 refine Run.gcal V162 (c_ContainsFunc_Int (fun n => !inD n 0 1073741824) (ds := []) V164 x.reads (by omega) (fun n _ => c_isPage_1 n)) V164 V120 V32 V120 ?_
 refine Run.gop V162 V120 V162 ?_
 iterate 2 (refine Run.o1 V120 ?_)
 iterate 2 (refine Run.gop V162 V120 V162 ?_)
 refine Run.gcal V162 (c_IsSorted x.reads h) V164 V120 V74 V120 ?_
 iterate 2 (refine Run.o1 V120 ?_)
 refine Run.nil ?_
 exact Ends.fin [] (rs := [.tmp 2]) rfl V120 (by simp only [go_sem, X.h, pageOK, any_not, Bool.not_not] <;> first | rfl | exact eqz)
theorem c_num_Sh (x : Sh) : Contract Tryz.prog 130 [shV x] (.int x.meter) [] := by
 refine con_of follows_mixed Tryz.func130 rfl (by simp only [List.length_cons, List.length_nil, Tryz.ntmps130]; omega) V169 rfl ?_
 refine Exec.reg ?_
 iterate 2 (refine Run.o ?_)
 refine Run.nil (Exec.reg ?_)
 iterate 3 (refine Run.o ?_)
 refine Run.nil ?_
 exact Ends.fin [] (rs := [.tmp 2]) rfl V162 V137
theorem c_bad_Sh (x : Sh) (h : x.tries.length ≤ 1000) : Contract Tryz.prog 161 [shV x, .leaf (.d (.pt [.fn 129 []]))] (.bool (!sheetOK x)) [] := by
 refine con_of follows_mixed Tryz.func161 rfl (by simp only [List.length_cons, List.length_nil, Tryz.ntmps161]; omega) V169 rfl ?_
 refine Exec.reg ?_
 iterate 2 (refine Run.o ?_)
 refine Run.nil (Exec.reg ?_)
 iterate 2 (refine Run.o ?_)
 refine Run.calw V162 (c_isSheet x h) V164 V162 V162 V74 (fr0) V162 ?_
 iterate 2 (refine Run.o ?_)
 refine Run.nil ?_
 exact Ends.fin [] (rs := [.tmp 3]) rfl V162 V137
theorem c_errorOf_Sh (l : List Sh) (most : Nat) (hl : l.length ≤ 1000) (hm : most ≤ 1000) (hz : ∀ x ∈ l, x.tries.length ≤ 1000) : Contract Tryz.prog 128 [.leaf (.d (shsD l)), .int most, .leaf (.d (.fn 129 [])), .leaf (.d (.fn 130 []))] (.int (errB l.length most (l.all sheetOK) (rises (l.map Sh.meter)))) [] := by
 refine con_of follows_mixed Tryz.func128 rfl (by simp only [List.length_cons, List.length_nil, Tryz.ntmps128]; omega) V169 rfl ?_
 refine Exec.reg ?_
 iterate 2 (refine Run.o1 V138 ?_)
 refine Run.nil (Exec.blk (Exec.reg ?_))
 iterate 5 (refine Run.o1 V138 ?_)
 refine Run.nil ?_
 refine Exec.cnd V138 (fun hb10 => ?_) (fun hb10 => ?_)
 ·skip
  have hgt : most < l.length := by have := of_decide_eq_true hb10; omega
  have hr := err3 (l.all sheetOK) (rises (l.map Sh.meter)) hgt
  refine Exec.reg ?_
  have X := Fx.mk hr
  refine Run.o1 V131 ?_
  refine Run.nil (BlkK.ret ?_)
  exact Ends.fin [] (rs := [.tmp 8]) rfl V131 V101
 ·skip
  have hle : l.length ≤ most := by have := of_decide_eq_false hb10; omega
  refine Exec.reg ?_
  refine Run.frz 6 V162 ?_
  iterate 2 (refine Run.o1 V138 ?_)
  refine Run.frz 17 V162 ?_
  refine Run.c1 (c_ContainsFunc_Sh (fun x => !sheetOK x) (ds := [.pt [.fn 129 []]]) V164 l (by omega) (fun x hx => c_bad_Sh x (hz x hx))) V138 V138 ?_
  refine Run.o1 V138 ?_
  refine Run.nil ?_
  refine Exec.cnd V138 (fun hb15 => ?_) (fun hb15 => ?_)
  ·skip
   have hno : l.all sheetOK = false := by simpa using hb15
   have hr := err1 (rises (l.map Sh.meter)) hle
   refine Exec.reg ?_
   have X := (Fx.mk hno).a hr
   refine Run.o1 V131 ?_
   refine Run.nil (BlkK.ret ?_)
   exact Ends.fin [] (rs := [.tmp 8]) rfl V131 V101
  ·skip
   have hyes : l.all sheetOK = true := by simpa using hb15
   refine BlkK.nrm (Exec.assocS (Exec.reg ?_))
   iterate 3 (refine Run.o1 V138 ?_)
   refine Run.nil (Exec.blk ?_)
   refine Exec.forA [0, 3, 20, 21] [] (l.length) (fun k => [.slot 21 (.int k)]) (riseT (l.map Sh.meter)) (fun k => by simp only [go_sem] <;> rfl) V138 ?_ (fun k hk hX => ?_)
   ·exact rise_zero _
   ·skip
    refine Exec.reg ?_
    refine Run.o1 V138 ?_
    refine Run.nil ?_
    refine Exec.cndS V138 (fun hb22 => ?_) (fun hb22 => ?_)
    ·skip
     have hlt := lt_of_dec hb22
     obtain ⟨x, hx⟩ := elem_of hb22
     refine Exec.skipS (Exec.blk (Exec.reg ?_))
     have X := Fx.mk hx
     iterate 2 (refine Run.o1 V131 ?_)
     refine Run.nil ?_
     by_cases h0 : k = 0
     ·skip
      subst h0
      have g1 : decide ((0 : Int) < ((0 : Nat) : Int)) = false := rfl
      refine Exec.opk 20 ?_
      have X := X.a g1
      iterate 3 (refine OpenK.o1 V131 ?_)
      iterate 14 (refine OpenK.s ?_)
      refine OpenK.o1 V131 ?_
      refine OpenK.nil (OpenE.finT V169 V169 V169 ?_)
      refine Exec.cnd V131 (fun hb41 => ?_) (fun hb41 => ?_)
      ·exact absurd hb41 (by simp)
      ·skip
       refine BlkK.nrm (Exec.reg1 ?_)
       refine Run.o1 V55 ?_
       refine Run.o1 V131 ?_
       refine Run.nil ?_
       refine ForK.nxt ?_ ?_ ?_
       ·omega
       ·exact Ghost.kp [0, 3, 20, 21] [] V102
       ·first | exact rise_step hX hx hy V149 | exact rise_one _
     ·skip
      have g1 : decide ((0 : Int) < (k : Int)) = true := decide_eq_true (by omega)
      obtain ⟨y, hy⟩ : ∃ y, l[k - 1]? = some y := ⟨_, List.getElem?_eq_getElem (by omega)⟩
      have t1 : ((k : Int) - 1).toNat = k - 1 := by omega
      refine Exec.opk 20 ?_
      have X := ((X.a g1).a hy).a t1
      iterate 3 (refine OpenK.o1 V131 ?_)
      iterate 3 (refine OpenK.y1 V131 ?_)
      refine OpenK.y1 V68 ?_
      refine OpenK.y1 V131 ?_
      refine OpenK.calw V162 (c_num_Sh x) V164 V131 V131 V74 (fr0) V131 V162 V162 ?_
      iterate 3 (refine OpenK.y1 V131 ?_)
      refine OpenK.y1 V55 ?_
      refine OpenK.y1 V68 ?_
      refine OpenK.y1 V131 ?_
      refine OpenK.calw V162 (c_num_Sh y) V164 V131 V131 V74 (fr0) V131 V162 V162 ?_
      refine OpenK.y1 V131 ?_
      refine OpenK.o1 V131 ?_
      refine OpenK.nil (OpenE.finT V169 V169 V169 ?_)
      refine Exec.cnd V131 (fun hb41 => ?_) (fun hb41 => ?_)
      ·skip
       have hno := rise_no (f := Sh.meter) (by omega) hx hy (by have := of_decide_eq_true hb41; omega)
       have hr := err7 hle
       refine Exec.reg ?_
       have X := ((X.a hyes).a hno).a hr
       refine Run.o1 V131 ?_
       refine Run.nil (BlkK.ret (ForK.ret (BlkK.ret ?_)))
       exact Ends.fin [] (rs := [.tmp 8]) rfl V131 V101
      ·skip
       refine BlkK.nrm (Exec.reg1 ?_)
       refine Run.o1 V55 ?_
       refine Run.o1 V131 ?_
       refine Run.nil ?_
       refine ForK.nxt ?_ ?_ ?_
       ·omega
       ·exact Ghost.kp [0, 3, 20, 21] [] V102
       ·first | exact rise_step hX hx hy V149 | exact rise_one _
    ·skip
     have hr0 := rise_done hX (ge_of_dec hb22)
     have hr := err0 hle
     refine Exec.exitS (ForK.ext (BlkK.hit (Exec.reg ?_)))
     have X := ((Fx.mk hyes).a hr0).a hr
     refine Run.o1 V131 ?_
     refine Run.nil ?_
     exact Ends.fin [] (rs := [.tmp 8]) rfl V131 V101
theorem c_sheetsError (l : List Sh) (hl : l.length ≤ 1000) (hz : ∀ x ∈ l, x.tries.length ≤ 1000) : Contract Tryz.prog 80 [.leaf (.d (shsD l))] (.int (sheetsE l)) [] := by
 refine con_of follows_mixed Tryz.func80 rfl (by simp only [List.length_cons, List.length_nil, Tryz.ntmps80]; omega) V169 rfl ?_
 refine Exec.reg ?_
 refine Run.o1 V155 ?_
 refine Run.nil (Exec.reg ?_)
 refine Run.o1 V155 ?_
 refine Run.c1 (c_errorOf_Sh l 12 hl (by omega) hz) V155 V155 ?_
 refine Run.o1 V155 ?_
 refine Run.nil ?_
 exact Ends.fin [] (rs := [.tmp 2]) rfl V155 (by simp only [go_sem, sheetsE] <;> first | rfl | exact eqz)
theorem c_num_Pl (x : Pl) : Contract Tryz.prog 120 [plV x] (.int x.num) [] := by
 refine con_of follows_mixed Tryz.func120 rfl (by simp only [List.length_cons, List.length_nil, Tryz.ntmps120]; omega) V169 rfl ?_
 refine Exec.reg ?_
 iterate 2 (refine Run.o ?_)
 refine Run.nil (Exec.reg ?_)
 iterate 3 (refine Run.o ?_)
 refine Run.nil ?_
 exact Ends.fin [] (rs := [.tmp 2]) rfl V162 V137
theorem c_bad_Pl (x : Pl) : Contract Tryz.prog 155 [plV x, .leaf (.d (.pt [.fn 119 []]))] (.bool (!plateOK x)) [] := by
 refine con_of follows_mixed Tryz.func155 rfl (by simp only [List.length_cons, List.length_nil, Tryz.ntmps155]; omega) V169 rfl ?_
 refine Exec.reg ?_
 iterate 2 (refine Run.o ?_)
 refine Run.nil (Exec.reg ?_)
 iterate 2 (refine Run.o ?_)
 refine Run.calw V162 (c_isPlate x) V164 V162 V162 V74 (fr0) V162 ?_
 iterate 2 (refine Run.o ?_)
 refine Run.nil ?_
 exact Ends.fin [] (rs := [.tmp 3]) rfl V162 V137
theorem c_errorOf_Pl (l : List Pl) (most : Nat) (hl : l.length ≤ 1000) (hm : most ≤ 1000)  : Contract Tryz.prog 118 [.leaf (.d (plsD l)), .int most, .leaf (.d (.fn 119 [])), .leaf (.d (.fn 120 []))] (.int (errB l.length most (l.all plateOK) (rises (l.map Pl.num)))) [] := by
 refine con_of follows_mixed Tryz.func118 rfl (by simp only [List.length_cons, List.length_nil, Tryz.ntmps118]; omega) V169 rfl ?_
 refine Exec.reg ?_
 iterate 2 (refine Run.o1 V138 ?_)
 refine Run.nil (Exec.blk (Exec.reg ?_))
 iterate 5 (refine Run.o1 V138 ?_)
 refine Run.nil ?_
 refine Exec.cnd V138 (fun hb10 => ?_) (fun hb10 => ?_)
 ·skip
  have hgt : most < l.length := by have := of_decide_eq_true hb10; omega
  have hr := err3 (l.all plateOK) (rises (l.map Pl.num)) hgt
  refine Exec.reg ?_
  have X := Fx.mk hr
  refine Run.o1 V131 ?_
  refine Run.nil (BlkK.ret ?_)
  exact Ends.fin [] (rs := [.tmp 8]) rfl V131 V101
 ·skip
  have hle : l.length ≤ most := by have := of_decide_eq_false hb10; omega
  refine Exec.reg ?_
  refine Run.frz 6 V162 ?_
  iterate 2 (refine Run.o1 V138 ?_)
  refine Run.frz 17 V162 ?_
  refine Run.c1 (c_ContainsFunc_Pl (fun x => !plateOK x) (ds := [.pt [.fn 119 []]]) V164 l (by omega) (fun x hx => c_bad_Pl x)) V138 V138 ?_
  refine Run.o1 V138 ?_
  refine Run.nil ?_
  refine Exec.cnd V138 (fun hb15 => ?_) (fun hb15 => ?_)
  ·skip
   have hno : l.all plateOK = false := by simpa using hb15
   have hr := err1 (rises (l.map Pl.num)) hle
   refine Exec.reg ?_
   have X := (Fx.mk hno).a hr
   refine Run.o1 V131 ?_
   refine Run.nil (BlkK.ret ?_)
   exact Ends.fin [] (rs := [.tmp 8]) rfl V131 V101
  ·skip
   have hyes : l.all plateOK = true := by simpa using hb15
   refine BlkK.nrm (Exec.assocS (Exec.reg ?_))
   iterate 3 (refine Run.o1 V138 ?_)
   refine Run.nil (Exec.blk ?_)
   refine Exec.forA [0, 3, 20, 21] [] (l.length) (fun k => [.slot 21 (.int k)]) (riseT (l.map Pl.num)) (fun k => by simp only [go_sem] <;> rfl) V138 ?_ (fun k hk hX => ?_)
   ·exact rise_zero _
   ·skip
    refine Exec.reg ?_
    refine Run.o1 V138 ?_
    refine Run.nil ?_
    refine Exec.cndS V138 (fun hb22 => ?_) (fun hb22 => ?_)
    ·skip
     have hlt := lt_of_dec hb22
     obtain ⟨x, hx⟩ := elem_of hb22
     refine Exec.skipS (Exec.blk (Exec.reg ?_))
     have X := Fx.mk hx
     iterate 2 (refine Run.o1 V131 ?_)
     refine Run.nil ?_
     by_cases h0 : k = 0
     ·skip
      subst h0
      have g1 : decide ((0 : Int) < ((0 : Nat) : Int)) = false := rfl
      refine Exec.opk 20 ?_
      have X := X.a g1
      iterate 3 (refine OpenK.o1 V131 ?_)
      iterate 14 (refine OpenK.s ?_)
      refine OpenK.o1 V131 ?_
      refine OpenK.nil (OpenE.finT V169 V169 V169 ?_)
      refine Exec.cnd V131 (fun hb41 => ?_) (fun hb41 => ?_)
      ·exact absurd hb41 (by simp)
      ·skip
       refine BlkK.nrm (Exec.reg1 ?_)
       refine Run.o1 V55 ?_
       refine Run.o1 V131 ?_
       refine Run.nil ?_
       refine ForK.nxt ?_ ?_ ?_
       ·omega
       ·exact Ghost.kp [0, 3, 20, 21] [] V102
       ·first | exact rise_step hX hx hy V149 | exact rise_one _
     ·skip
      have g1 : decide ((0 : Int) < (k : Int)) = true := decide_eq_true (by omega)
      obtain ⟨y, hy⟩ : ∃ y, l[k - 1]? = some y := ⟨_, List.getElem?_eq_getElem (by omega)⟩
      have t1 : ((k : Int) - 1).toNat = k - 1 := by omega
      refine Exec.opk 20 ?_
      have X := ((X.a g1).a hy).a t1
      iterate 3 (refine OpenK.o1 V131 ?_)
      iterate 3 (refine OpenK.y1 V131 ?_)
      refine OpenK.y1 V68 ?_
      refine OpenK.y1 V131 ?_
      refine OpenK.calw V162 (c_num_Pl x) V164 V131 V131 V74 (fr0) V131 V162 V162 ?_
      iterate 3 (refine OpenK.y1 V131 ?_)
      refine OpenK.y1 V55 ?_
      refine OpenK.y1 V68 ?_
      refine OpenK.y1 V131 ?_
      refine OpenK.calw V162 (c_num_Pl y) V164 V131 V131 V74 (fr0) V131 V162 V162 ?_
      refine OpenK.y1 V131 ?_
      refine OpenK.o1 V131 ?_
      refine OpenK.nil (OpenE.finT V169 V169 V169 ?_)
      refine Exec.cnd V131 (fun hb41 => ?_) (fun hb41 => ?_)
      ·skip
       have hno := rise_no (f := Pl.num) (by omega) hx hy (by have := of_decide_eq_true hb41; omega)
       have hr := err7 hle
       refine Exec.reg ?_
       have X := ((X.a hyes).a hno).a hr
       refine Run.o1 V131 ?_
       refine Run.nil (BlkK.ret (ForK.ret (BlkK.ret ?_)))
       exact Ends.fin [] (rs := [.tmp 8]) rfl V131 V101
      ·skip
       refine BlkK.nrm (Exec.reg1 ?_)
       refine Run.o1 V55 ?_
       refine Run.o1 V131 ?_
       refine Run.nil ?_
       refine ForK.nxt ?_ ?_ ?_
       ·omega
       ·exact Ghost.kp [0, 3, 20, 21] [] V102
       ·first | exact rise_step hX hx hy V149 | exact rise_one _
    ·skip
     have hr0 := rise_done hX (ge_of_dec hb22)
     have hr := err0 hle
     refine Exec.exitS (ForK.ext (BlkK.hit (Exec.reg ?_)))
     have X := ((Fx.mk hyes).a hr0).a hr
     refine Run.o1 V131 ?_
     refine Run.nil ?_
     exact Ends.fin [] (rs := [.tmp 8]) rfl V131 V101
theorem c_platesError (l : List Pl) (hl : l.length ≤ 1000)  : Contract Tryz.prog 64 [.leaf (.d (plsD l))] (.int (platesE l)) [] := by
 refine con_of follows_mixed Tryz.func64 rfl (by simp only [List.length_cons, List.length_nil, Tryz.ntmps64]; omega) V169 rfl ?_
 refine Exec.reg ?_
 refine Run.o1 V156 ?_
 refine Run.nil (Exec.reg ?_)
 refine Run.o1 V156 ?_
 refine Run.c1 (c_errorOf_Pl l 60 hl (by omega)) V156 V156 ?_
 refine Run.o1 V156 ?_
 refine Run.nil ?_
 exact Ends.fin [] (rs := [.tmp 2]) rfl V156 (by simp only [go_sem, platesE] <;> first | rfl | exact eqz)
theorem c_num_Pg (x : Pg) : Contract Tryz.prog 101 [pgV x] (.int x.house) [] := by
 refine con_of follows_mixed Tryz.func101 rfl (by simp only [List.length_cons, List.length_nil, Tryz.ntmps101]; omega) V169 rfl ?_
 refine Exec.reg ?_
 iterate 2 (refine Run.o ?_)
 refine Run.nil (Exec.reg ?_)
 iterate 3 (refine Run.o ?_)
 refine Run.nil ?_
 exact Ends.fin [] (rs := [.tmp 2]) rfl V162 V137
theorem c_bad_Pg (x : Pg) (h : x.reads.length ≤ 1000) : Contract Tryz.prog 140 [pgV x, .leaf (.d (.pt [.fn 100 []]))] (.bool (!pageOK x)) [] := by
 refine con_of follows_mixed Tryz.func140 rfl (by simp only [List.length_cons, List.length_nil, Tryz.ntmps140]; omega) V169 rfl ?_
 refine Exec.reg ?_
 iterate 2 (refine Run.o ?_)
 refine Run.nil (Exec.reg ?_)
 iterate 2 (refine Run.o ?_)
 refine Run.calw V162 (c_isPage x h) V164 V162 V162 V74 (fr0) V162 ?_
 iterate 2 (refine Run.o ?_)
 refine Run.nil ?_
 exact Ends.fin [] (rs := [.tmp 3]) rfl V162 V137
theorem c_errorOf_Pg (l : List Pg) (most : Nat) (hl : l.length ≤ 1000) (hm : most ≤ 1000) (hz : ∀ x ∈ l, x.reads.length ≤ 1000) : Contract Tryz.prog 99 [.leaf (.d (pgsD l)), .int most, .leaf (.d (.fn 100 [])), .leaf (.d (.fn 101 []))] (.int (errB l.length most (l.all pageOK) (rises (l.map Pg.house)))) [] := by
 refine con_of follows_mixed Tryz.func99 rfl (by simp only [List.length_cons, List.length_nil, Tryz.ntmps99]; omega) V169 rfl ?_
 refine Exec.reg ?_
 iterate 2 (refine Run.o1 V138 ?_)
 refine Run.nil (Exec.blk (Exec.reg ?_))
 iterate 5 (refine Run.o1 V138 ?_)
 refine Run.nil ?_
 refine Exec.cnd V138 (fun hb10 => ?_) (fun hb10 => ?_)
 ·skip
  have hgt : most < l.length := by have := of_decide_eq_true hb10; omega
  have hr := err3 (l.all pageOK) (rises (l.map Pg.house)) hgt
  refine Exec.reg ?_
  have X := Fx.mk hr
  refine Run.o1 V131 ?_
  refine Run.nil (BlkK.ret ?_)
  exact Ends.fin [] (rs := [.tmp 8]) rfl V131 V101
 ·skip
  have hle : l.length ≤ most := by have := of_decide_eq_false hb10; omega
  refine Exec.reg ?_
  refine Run.frz 6 V162 ?_
  iterate 2 (refine Run.o1 V138 ?_)
  refine Run.frz 17 V162 ?_
  refine Run.c1 (c_ContainsFunc_Pg (fun x => !pageOK x) (ds := [.pt [.fn 100 []]]) V164 l (by omega) (fun x hx => c_bad_Pg x (hz x hx))) V138 V138 ?_
  refine Run.o1 V138 ?_
  refine Run.nil ?_
  refine Exec.cnd V138 (fun hb15 => ?_) (fun hb15 => ?_)
  ·skip
   have hno : l.all pageOK = false := by simpa using hb15
   have hr := err1 (rises (l.map Pg.house)) hle
   refine Exec.reg ?_
   have X := (Fx.mk hno).a hr
   refine Run.o1 V131 ?_
   refine Run.nil (BlkK.ret ?_)
   exact Ends.fin [] (rs := [.tmp 8]) rfl V131 V101
  ·skip
   have hyes : l.all pageOK = true := by simpa using hb15
   refine BlkK.nrm (Exec.assocS (Exec.reg ?_))
   iterate 3 (refine Run.o1 V138 ?_)
   refine Run.nil (Exec.blk ?_)
   refine Exec.forA [0, 3, 20, 21] [] (l.length) (fun k => [.slot 21 (.int k)]) (riseT (l.map Pg.house)) (fun k => by simp only [go_sem] <;> rfl) V138 ?_ (fun k hk hX => ?_)
   ·exact rise_zero _
   ·skip
    refine Exec.reg ?_
    refine Run.o1 V138 ?_
    refine Run.nil ?_
    refine Exec.cndS V138 (fun hb22 => ?_) (fun hb22 => ?_)
    ·skip
     have hlt := lt_of_dec hb22
     obtain ⟨x, hx⟩ := elem_of hb22
     refine Exec.skipS (Exec.blk (Exec.reg ?_))
     have X := Fx.mk hx
     iterate 2 (refine Run.o1 V131 ?_)
     refine Run.nil ?_
     by_cases h0 : k = 0
     ·skip
      subst h0
      have g1 : decide ((0 : Int) < ((0 : Nat) : Int)) = false := rfl
      refine Exec.opk 20 ?_
      have X := X.a g1
      iterate 3 (refine OpenK.o1 V131 ?_)
      iterate 14 (refine OpenK.s ?_)
      refine OpenK.o1 V131 ?_
      refine OpenK.nil (OpenE.finT V169 V169 V169 ?_)
      refine Exec.cnd V131 (fun hb41 => ?_) (fun hb41 => ?_)
      ·exact absurd hb41 (by simp)
      ·skip
       refine BlkK.nrm (Exec.reg1 ?_)
       refine Run.o1 V55 ?_
       refine Run.o1 V131 ?_
       refine Run.nil ?_
       refine ForK.nxt ?_ ?_ ?_
       ·omega
       ·exact Ghost.kp [0, 3, 20, 21] [] V102
       ·first | exact rise_step hX hx hy V149 | exact rise_one _
     ·skip
      have g1 : decide ((0 : Int) < (k : Int)) = true := decide_eq_true (by omega)
      obtain ⟨y, hy⟩ : ∃ y, l[k - 1]? = some y := ⟨_, List.getElem?_eq_getElem (by omega)⟩
      have t1 : ((k : Int) - 1).toNat = k - 1 := by omega
      refine Exec.opk 20 ?_
      have X := ((X.a g1).a hy).a t1
      iterate 3 (refine OpenK.o1 V131 ?_)
      iterate 3 (refine OpenK.y1 V131 ?_)
      refine OpenK.y1 V68 ?_
      refine OpenK.y1 V131 ?_
      refine OpenK.calw V162 (c_num_Pg x) V164 V131 V131 V74 (fr0) V131 V162 V162 ?_
      iterate 3 (refine OpenK.y1 V131 ?_)
      refine OpenK.y1 V55 ?_
      refine OpenK.y1 V68 ?_
      refine OpenK.y1 V131 ?_
      refine OpenK.calw V162 (c_num_Pg y) V164 V131 V131 V74 (fr0) V131 V162 V162 ?_
      refine OpenK.y1 V131 ?_
      refine OpenK.o1 V131 ?_
      refine OpenK.nil (OpenE.finT V169 V169 V169 ?_)
      refine Exec.cnd V131 (fun hb41 => ?_) (fun hb41 => ?_)
      ·skip
       have hno := rise_no (f := Pg.house) (by omega) hx hy (by have := of_decide_eq_true hb41; omega)
       have hr := err7 hle
       refine Exec.reg ?_
       have X := ((X.a hyes).a hno).a hr
       refine Run.o1 V131 ?_
       refine Run.nil (BlkK.ret (ForK.ret (BlkK.ret ?_)))
       exact Ends.fin [] (rs := [.tmp 8]) rfl V131 V101
      ·skip
       refine BlkK.nrm (Exec.reg1 ?_)
       refine Run.o1 V55 ?_
       refine Run.o1 V131 ?_
       refine Run.nil ?_
       refine ForK.nxt ?_ ?_ ?_
       ·omega
       ·exact Ghost.kp [0, 3, 20, 21] [] V102
       ·first | exact rise_step hX hx hy V149 | exact rise_one _
    ·skip
     have hr0 := rise_done hX (ge_of_dec hb22)
     have hr := err0 hle
     refine Exec.exitS (ForK.ext (BlkK.hit (Exec.reg ?_)))
     have X := ((Fx.mk hyes).a hr0).a hr
     refine Run.o1 V131 ?_
     refine Run.nil ?_
     exact Ends.fin [] (rs := [.tmp 8]) rfl V131 V101
theorem c_pagesError (l : List Pg) (hl : l.length ≤ 1000) (hz : ∀ x ∈ l, x.reads.length ≤ 1000) : Contract Tryz.prog 45 [.leaf (.d (pgsD l))] (.int (pagesE l)) [] := by
 refine con_of follows_mixed Tryz.func45 rfl (by simp only [List.length_cons, List.length_nil, Tryz.ntmps45]; omega) V169 rfl ?_
 refine Exec.reg ?_
 refine Run.o1 V157 ?_
 refine Run.nil (Exec.reg ?_)
 refine Run.o1 V157 ?_
 refine Run.c1 (c_errorOf_Pg l 32 hl (by omega) hz) V157 V157 ?_
 refine Run.o1 V157 ?_
 refine Run.nil ?_
 exact Ends.fin [] (rs := [.tmp 2]) rfl V157 (by simp only [go_sem, pagesE] <;> first | rfl | exact eqz)
end Go.Mw
